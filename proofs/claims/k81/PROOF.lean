import PyProof.Rows.All
import Wide.All
import OpenK.AllK
import Wide.FinOn
import HandS.ForMost
import HandS.Wide
import HandS.More
import KE.DataEq
import KE.DataIsa
import KE.DataMinMax
import KE.DataFind
import KE.SortData
import KE.DatumIndex
import PyProof.ReprReads
import HandS.SortInts
import HandS.Deep
import HandS.SetFor
import HandS.Strs
import PyProof.ReprRoads
import PyProof.CallFns
import HandS.Style
import HandS.Conv
import HandS.TryOnly
import HandS.Dict
import PySem.Challenge.RW_likesheets_k81_heights_by_nets
set_option Elab.async false
set_option linter.all false
set_option maxRecDepth 100000
/-! PV1: the small language (E, S) and what it is worth, over plain values. -/
namespace PV
open PySem

abbrev R := Bool × PyData
abbrev Fn := List PyData → Option R
abbrev Sl := List (Option R)

inductive BOp where
  | add | sub | mul | fdiv | mod | pow | shl | shr | band | bor
inductive COp where
  | eq | ne | lt | le | gt | ge | isn | notn | inn | notin
inductive BI where
  | len | abs | int | min | max | sum | sorted | list | tuple | isInt | isBool | isList | isTuple | isStr | repr | sortedSet | index | count
/-- targets -/
inductive G where
  | nm (i : Nat)
  | two (a b : G)
  | thr (a b c : G)
  | fou (a b c d : G)
mutual
inductive E where
  | v (i : Nat) | c (d : PyData)
  | bin (o : BOp) (a b : E) | neg (a : E)
  | cmp (o : COp) (a b : E) | chain (o p : COp) (a b c : E)
  | and (a b : E) | or (a b : E) | not (a : E) | ite (c a b : E)
  | tup (es : Es) | lst (es : Es)
  | ix (a i : E) | sl (a : E) (lo hi : Oe) | rev (a : E) | rngl (es : Es)
  | call (f : Fn) (es : Es) | bi (b : BI) (es : Es)
  | comp (own : List Nat) (g : G) (it : I) (c : Oe) (elt : E)
  | comp2 (own : List Nat) (g : G) (it : I) (c : Oe) (own1 : List Nat) (g1 : G) (it1 : I) (c1 : Oe) (elt : E)
  | ix2 (i : Nat) (a b : E)
  | mget (i : Nat) (a : E) | min (i : Nat) (a : E) | mnot (i : Nat) (a : E)
  | callT (fs : List Fn) (ix : E) (es : Es)
inductive Es where
  | nil | cons (e : E) (es : Es)
inductive Oe where
  | no | yes (e : E)
inductive I where
  | rng (es : Es) | seq (e : E)
end
mutual
inductive S where
  | asg (g : G) (e : E)
  | asgs (i : Nat) (e : E)
  | par (i j : Nat) (a b : E)
  | par3 (i j l : Nat) (a b d : E)
  | app (i : Nat) (e : E) | ext (i : Nat) (e : E) | ins (i : Nat) (a e : E) | put (i : Nat) (a e : E)
  | pop (g : G) (i : Nat)
  | ret (e : E) | retN
  | ite (c : E) (a b : Ss)
  | for_ (g : G) (it : I) (b : Ss)
  | while_ (c : E) (b : Ss)
  | share (i : Nat)
  | newD (i : Nat) (own : List Nat) (g : G) (it : I) (elt : E)
  | put2 (i : Nat) (a b e : E) | app2 (i : Nat) (a e : E)
  | newM (i : Nat) (t : Bool) | putM (i : Nat) (a e : E)
  | never
inductive Ss where
  | nil | cons (s : S) (ss : Ss)
end

/-! ### values -/
def LINE : Nat := 16777216
def mulOk (i j : Int) : Bool := Nat.blt (i.natAbs.log2 + j.natAbs.log2) 1000000
def divOk (j : Int) : Bool := decide (j ≠ 0) && Nat.blt j.natAbs.log2 9000
def powOk (i j : Int) : Bool := decide (0 ≤ j) && decide (j ≤ 1000000) && Nat.blt i.natAbs 18446744073709551616
def lenOk (n : Nat) : Bool := Nat.ble n LINE
/-- what may be compared: not too deep, no dict -/
def dok (d : PyData) : Bool := Nat.ble d.depth 50 && d.plain
mutual
/-- no list within -/
def nolist : PyData → Bool
  | .list _ => false
  | .dict _ => false
  | .tuple xs => nolistA xs
  | .none => true
  | .bool _ => true
  | .int _ => true
  | .str _ => true
def nolistA : List PyData → Bool
  | [] => true
  | x :: xs => nolist x && nolistA xs
end
def nolistR : R → Bool
  | (false, d) => nolist d
  | (true, .list ds) => nolistA ds
  | (true, _) => false

def evBin : BOp → PyData → PyData → Option R
  | .add, .int i, .int j => some (false, .int (i + j))
  | .add, .list a, .list b => if lenOk (a.length + b.length) then some (true, .list (a ++ b)) else none
  | .sub, .int i, .int j => some (false, .int (i - j))
  | .mul, .int i, .int j => if mulOk i j then some (false, .int (i * j)) else none
  | .mul, .list a, .int k => if decide (k < 1000000000) && decide (-1000000000 < k) && lenOk (a.length * k.toNat) then some (true, .list (List.replicate k.toNat a).flatten) else none
  | .fdiv, .int i, .int j => if divOk j then some (false, .int (i.fdiv j)) else none
  | .mod, .int i, .int j => if decide (0 < j) then some (false, .int (i % j)) else none
  | .pow, .int i, .int j => if powOk i j then some (false, .int (i ^ j.toNat)) else none
  | .shl, .int i, .int j => if powOk i j then some (false, .int (i * 2 ^ j.toNat)) else none
  | .shr, .int i, .int j => if decide (0 ≤ j) then some (false, .int (i / 2 ^ j.toNat)) else none
  | .band, .int i, .int j => some (false, .int (Builtin.bitAnd i j))
  | .bor, .int i, .int j => some (false, .int (Builtin.bitOr i j))
  | _, _, _ => none
def evNeg : PyData → Option R
  | .int i => some (false, .int (-i))
  | _ => none
def isNone : PyData → Bool
  | .none => true
  | _ => false
def evCmp : COp → PyData → PyData → Option Bool
  | .eq, .int i, .int j => some (decide (i = j))
  | .ne, .int i, .int j => some (!decide (i = j))
  | .lt, .int i, .int j => some (decide (i < j))
  | .le, .int i, .int j => some (decide (i ≤ j))
  | .gt, .int i, .int j => some (decide (j < i))
  | .ge, .int i, .int j => some (decide (j ≤ i))
  | .isn, d, .none => some (isNone d)
  | .notn, d, .none => some (!isNone d)
  | .isn, .bool a, .bool b => some (a == b)
  | .notn, .bool a, .bool b => some (a != b)
  | .isn, .none, .bool _ => some false
  | .notn, .none, .bool _ => some true
  | .eq, a, b => if dok a && dok b then some (PyData.eqv a b) else none
  | .ne, a, b => if dok a && dok b then some (!PyData.eqv a b) else none
  | .inn, a, .list bs => if dok a && dok (.list bs) then some (bs.any fun z => PyData.eqv z a) else none
  | .notin, a, .list bs => if dok a && dok (.list bs) then some (!bs.any fun z => PyData.eqv z a) else none
  | .inn, a, .tuple bs => if dok a && dok (.tuple bs) then some (bs.any fun z => PyData.eqv z a) else none
  | .notin, a, .tuple bs => if dok a && dok (.tuple bs) then some (!bs.any fun z => PyData.eqv z a) else none
  | _, _, _ => none
def evIx : PyData → PyData → Option R
  | .list ds, .int i => (L2.atI ds i).map fun d => (false, d)
  | .tuple ds, .int i => (L2.atI ds i).map fun d => (false, d)
  | _, _ => none
def cutD (xs : List PyData) (lo hi : Option Int) : List PyData := (xs.drop (HT.sIx xs.length 0 lo)).take (HT.sIx xs.length xs.length hi - HT.sIx xs.length 0 lo)
def evSl : PyData → Option Int → Option Int → Option R
  | .list ds, lo, hi => some (true, .list (cutD ds lo hi))
  | _, _, _ => none
/-- all intsOf -/
def intsOf : List PyData → Option (List Int)
  | [] => some []
  | .int i :: ds => (intsOf ds).map fun l => i :: l
  | _ :: _ => none
def minI : Int → List Int → Int
  | m, [] => m
  | m, x :: xs => minI (if x < m then x else m) xs
def maxI : Int → List Int → Int
  | m, [] => m
  | m, x :: xs => maxI (if m < x then x else m) xs
def insI (x : Int) : List Int → List Int
  | [] => [x]
  | y :: ys => if x ≤ y then x :: y :: ys else y :: insI x ys
def sortI : List Int → List Int
  | [] => []
  | x :: xs => insI x (sortI xs)
def dedupI : List Int → List Int
  | [] => []
  | x :: xs => if xs.contains x then dedupI xs else x :: dedupI xs
def idxD (x : PyData) : List PyData → Nat → Option Nat
  | [], _ => none
  | y :: ys, n => if PyData.eqv y x then some n else idxD x ys (n + 1)

/-- what may be sorted: data of one kind, none of them None, tuples that are not empty -/
def tupOk : PyData → Bool
  | .tuple (_ :: _) => true
  | _ => false
def rowOk : PyData → Bool
  | .tuple _ => false
  | .none => false
  | _ => true
def sdok (ds : List PyData) : Bool := (ds.all fun d => ds.all fun d' => W.alike d d') && (ds.all tupOk || ds.all rowOk) && Nat.ble (PyData.depthAll ds) 50
def evBI : BI → List PyData → Option R
  | .len, [.list ds] => some (false, .int ds.length)
  | .len, [.tuple ds] => some (false, .int ds.length)
  | .abs, [.int i] => some (false, .int (if i < 0 then -i else i))
  | .int, [.int i] => some (false, .int i)
  | .int, [.bool k] => some (false, .int (if k then 1 else 0))
  | .min, [.int i, .int j] => some (false, .int (if j < i then j else i))
  | .max, [.int i, .int j] => some (false, .int (if j > i then j else i))
  | .sorted, [.list ds] => match intsOf ds with
    | some l => some (true, .list ((sortI l).map .int))
    | none => if sdok ds then some (true, .list (ds.mergeSort (W.dataLe false fun d => d))) else none
  | .sortedSet, [.list ds] => (intsOf ds).bind fun l => if Nat.blt l.length 64 then some (true, .list ((sortI (dedupI l)).map .int)) else none
  | .sum, [.list ds] => (intsOf ds).map fun l => (false, .int l.sum)
  | .min, [.list ds] => (intsOf ds).bind fun l => match l with
    | [] => none
    | x :: xs => some (false, .int (minI x xs))
  | .max, [.list ds] => (intsOf ds).bind fun l => match l with
    | [] => none
    | x :: xs => some (false, .int (maxI x xs))
  | .list, [.list ds] => some (true, .list ds)
  | .list, [.tuple ds] => some (true, .list ds)
  | .tuple, [.list ds] => some (false, .tuple ds)
  | .tuple, [.tuple ds] => some (false, .tuple ds)
  | .isInt, [d] => some (false, .bool d.isInt)
  | .isBool, [d] => some (false, .bool d.isBool)
  | .isList, [d] => some (false, .bool d.isList)
  | .isTuple, [d] => some (false, .bool d.isTuple)
  | .isStr, [d] => some (false, .bool d.isStr)
  | .repr, [d] => if d.showable && !d.hasDict && Nat.ble d.depth 50 && lenOk (d.shown.length + 64) then some (false, .str d.shown) else none
  | .count, [.list ds, x] => if dok x && dok (.list ds) then some (false, .int (ds.countP fun y => PyData.eqv y x : Nat)) else none
  | .index, [.list ds, x] => if dok x && dok (.list ds) then (idxD x ds 0).map fun n => (false, .int n) else none
  | _, _ => none

/-! ### slots that hold a list of own lists (as a tuple), or a dict -/
/-- the rows of such a slot -/
def rowsOf : R → Option (List PyData)
  | (true, .tuple rows) => some rows
  | _ => none
def listIt : PyData → Option (List PyData)
  | .list ds => some ds
  | _ => none
/-- a dict: by tuples of ints, or by ints -/
def dictOf : R → Option (Bool × List (PyData × PyData))
  | (true, .dict ((.none, .bool t) :: kvs)) => some (t, kvs)
  | _ => none
def keyOk (t : Bool) (k : PyData) : Bool := match k with
  | .tuple ds => t && (intsOf ds).isSome
  | .int _ => !t
  | _ => false
/-- the ints of a key -/
def keyI : PyData → List Int
  | .tuple ds => (intsOf ds).getD []
  | .int i => [i]
  | _ => []
def keyEq (a b : PyData) : Bool := decide (keyI a = keyI b)
def findK (kvs : List (PyData × PyData)) (k : PyData) : Option PyData := (kvs.find? fun p => keyEq p.1 k).map (·.2)
def putKv (kvs : List (PyData × PyData)) (k v : PyData) : List (PyData × PyData) := if kvs.any (fun p => keyEq p.1 k) then kvs.map fun p => if keyEq p.1 k then (p.1, v) else p else kvs ++ [(k, v)]
/-- what a name's value is, told to be returned or shared -/
def lessR : R → Option R
  | (true, .list ds) => some (true, .list ds)
  | (true, .tuple rows) => some (true, .list rows)
  | (true, _) => none
  | (false, d) => some (false, d)

/-! ### slots -/
def wipeR (ρ : Sl) : List Nat → Sl
  | [] => ρ
  | v :: vs => (wipeR ρ vs).set v none
def asg : G → PyData → Sl → Option Sl
  | .nm i, d, ρ => some (ρ.set i (some (false, d)))
  | .two a b, .tuple [x, y], ρ => (asg a x ρ).bind fun ρ1 => asg b y ρ1
  | .thr a b c, .tuple [x, y, z], ρ => (asg a x ρ).bind fun ρ1 => (asg b y ρ1).bind fun ρ2 => asg c z ρ2
  | .fou a b c d, .tuple [x, y, z, u], ρ => (asg a x ρ).bind fun ρ1 => (asg b y ρ1).bind fun ρ2 => (asg c z ρ2).bind fun ρ3 => asg d u ρ3
  | .two a b, .list [x, y], ρ => (asg a x ρ).bind fun ρ1 => asg b y ρ1
  | .thr a b c, .list [x, y, z], ρ => (asg a x ρ).bind fun ρ1 => (asg b y ρ1).bind fun ρ2 => asg c z ρ2
  | .fou a b c d, .list [x, y, z, u], ρ => (asg a x ρ).bind fun ρ1 => (asg b y ρ1).bind fun ρ2 => (asg c z ρ2).bind fun ρ3 => asg d u ρ3
  | _, _, _ => none
def asgR : G → R → Sl → Option Sl
  | .nm i, r, ρ => some (ρ.set i (some r))
  | g, r, ρ => asg g r.2 ρ
def ownedArg (ρ : Sl) : E → Bool
  | .v i => match ρ[i]? with
    | some (some (true, _)) => true
    | _ => false
  | _ => false
def ownedArgs (ρ : Sl) : Es → Bool
  | .nil => false
  | .cons e es => ownedArg ρ e || ownedArgs ρ es

def compGo (f : PyData → Option (Option PyData)) : List PyData → Option (List PyData)
  | [] => some []
  | d :: ds => match f d with
    | none => none
    | some none => compGo f ds
    | some (some y) => match compGo f ds with
      | none => none
      | some ys => some (y :: ys)
def compGo2 (f : PyData → Option (List PyData)) : List PyData → Option (List PyData)
  | [] => some []
  | d :: ds => match f d with
    | none => none
    | some xs => match compGo2 f ds with
      | none => none
      | some ys => some (xs ++ ys)
def rngI (lo : Int) (n : Nat) : List PyData := (List.range n).map fun (k : Nat) => .int (lo + (k : Int))
/-- a step other than 0 -/
def rngN (lo hi st : Int) : Nat := (Builtin.Range.rangeSize lo hi st).toNat
def rngS (lo st : Int) (n : Nat) : List PyData := (List.range n).map fun (k : Nat) => .int (lo + (k : Int) * st)
def smallI (i : Int) : Bool := decide (-1000000000 ≤ i) && decide (i ≤ 1000000000)
def evRng : List PyData → Option (List PyData)
  | [.int n] => if smallI n && lenOk n.toNat then some (rngI 0 n.toNat) else none
  | [.int a, .int b] => if smallI a && smallI b && lenOk (b - a).toNat then some (rngI a (b - a).toNat) else none
  | [.int a, .int b, .int c] => if decide (c ≠ 0) && Nat.blt c.natAbs 1073741824 && Builtin.Range.small a b c && lenOk (rngN a b c) && decide (Builtin.Range.rangeSize a b c = (rngN a b c : Int)) then some (rngS a c (rngN a b c)) else none
  | _ => none
def itemsOf : PyData → Option (List PyData)
  | .list ds => some ds
  | .tuple ds => some ds
  | _ => none

def rowR : R → Option (Option PyData)
  | (true, .list xs) => some (some (.list xs))
  | _ => none
def slot (ρ : Sl) (i : Nat) : Option R := match ρ[i]? with
  | some (some r) => some r
  | _ => none
def asInt : PyData → Option Int
  | .int i => some i
  | _ => none
mutual
def evE : E → Bool → Sl → Option R
  | .v i, b, ρ => match ρ[i]? with
    | some (some (false, d)) => some (false, d)
    | some (some (true, .list ds)) => if b then some (false, .list ds) else none
    | _ => none
  | .c d, _, _ => some (false, d)
  | .bin o x y, _, ρ => (evE x true ρ).bind fun r => (evE y true ρ).bind fun s => evBin o r.2 s.2
  | .neg x, _, ρ => (evE x true ρ).bind fun r => evNeg r.2
  | .cmp o x y, _, ρ => (evE x true ρ).bind fun r => (evE y true ρ).bind fun s => (evCmp o r.2 s.2).map fun k => (false, .bool k)
  | .chain o p x y z, _, ρ => (evE x true ρ).bind fun r => (evE y true ρ).bind fun s => (evCmp o r.2 s.2).bind fun k => match k with
    | false => some (false, .bool false)
    | true => (evE z true ρ).bind fun t => (evCmp p s.2 t.2).map fun k => (false, .bool k)
  | .and x y, b, ρ => (evE x true ρ).bind fun r => match r.2 with
    | .bool true => evE y b ρ
    | .bool false => some (false, .bool false)
    | _ => none
  | .or x y, b, ρ => (evE x true ρ).bind fun r => match r.2 with
    | .bool false => evE y b ρ
    | .bool true => some (false, .bool true)
    | _ => none
  | .not x, _, ρ => (evE x true ρ).bind fun r => match r.2 with
    | .bool k => some (false, .bool (!k))
    | _ => none
  | .ite c x y, b, ρ => (evE c true ρ).bind fun r => match r.2 with
    | .bool true => evE x b ρ
    | .bool false => evE y b ρ
    | _ => none
  | .tup es, _, ρ => (evEs es false ρ).bind fun ds => if lenOk ds.length then some (false, .tuple ds) else none
  | .lst es, _, ρ => (evEs es false ρ).bind fun ds => if lenOk ds.length then some (true, .list ds) else none
  | .ix x i, _, ρ => (evE x true ρ).bind fun r => (evE i true ρ).bind fun s => evIx r.2 s.2
  | .sl x lo hi, _, ρ => (evE x true ρ).bind fun r => (evP lo ρ).bind fun l => (evP hi ρ).bind fun h => evSl r.2 l h
  | .rev x, _, ρ => (evE x true ρ).bind fun r => match r.2 with
    | .list ds => some (true, .list ds.reverse)
    | .tuple ds => some (false, .tuple ds.reverse)
    | _ => none
  | .rngl es, _, ρ => (evEs es true ρ).bind fun ds => (evRng ds).map fun l => (true, .list l)
  | .call f es, _, ρ => if ownedArgs ρ es then (evEs es true ρ).bind fun ds => (f ds).bind fun r => if nolistR r then some r else none else (evEs es false ρ).bind f
  | .bi b es, _, ρ => (evEs es true ρ).bind fun ds => evBI b ds
  | .comp own g it c elt, _, ρ => (evI it true ρ).bind fun ds => (compGo (fun d => (asg g d (wipeR ρ own)).bind fun ρ2 => (evC c ρ2).bind fun k => match k with
      | false => some none
      | true => (evE elt false ρ2).map fun r => some r.2) ds).map fun ys => (true, .list ys)
  | .comp2 own g it c own1 g1 it1 c1 elt, _, ρ => (evI it true ρ).bind fun ds => (compGo2 (fun d => (asg g d (wipeR ρ own)).bind fun ρ2 => (evC c ρ2).bind fun k => match k with
      | false => some []
      | true => (evI it1 true ρ2).bind fun ds1 => compGo (fun d1 => (asg g1 d1 (wipeR ρ2 own1)).bind fun ρ3 => (evC c1 ρ3).bind fun k => match k with
        | false => some none
        | true => (evE elt false ρ3).map fun r => some r.2) ds1) ds).bind fun ys => if lenOk ys.length then some (true, .list ys) else none
  | .ix2 i a b, _, ρ => (slot ρ i).bind fun q => (rowsOf q).bind fun rows => (evE a true ρ).bind fun r => (asInt r.2).bind fun j => (evE b true ρ).bind fun s => (L2.atI rows j).bind fun row => evIx row s.2
  | .mget i a, _, ρ => (slot ρ i).bind fun q => (dictOf q).bind fun tk => (evE a true ρ).bind fun r => if keyOk tk.1 r.2 then (findK tk.2 r.2).map fun d => (false, d) else none
  | .min i a, _, ρ => (evE a true ρ).bind fun r => (slot ρ i).bind fun q => (dictOf q).bind fun tk => if keyOk tk.1 r.2 then some (false, .bool (findK tk.2 r.2).isSome) else none
  | .mnot i a, _, ρ => (evE a true ρ).bind fun r => (slot ρ i).bind fun q => (dictOf q).bind fun tk => if keyOk tk.1 r.2 then some (false, .bool (!(findK tk.2 r.2).isSome)) else none
  | .callT fs ix es, _, ρ => (evE ix true ρ).bind fun r => (asInt r.2).bind fun j => (L2.atI fs j).bind fun f => (evEs es false ρ).bind f
def evEs : Es → Bool → Sl → Option (List PyData)
  | .nil, _, _ => some []
  | .cons e es, b, ρ => (evE e b ρ).bind fun r => (evEs es b ρ).map fun ds => r.2 :: ds
/-- a bound of a slice -/
def evP : Oe → Sl → Option (Option Int)
  | .no, _ => some none
  | .yes e, ρ => (evE e true ρ).bind fun r => match r.2 with
    | .int i => some (some i)
    | _ => none
/-- a comprehension's test -/
def evC : Oe → Sl → Option Bool
  | .no, _ => some true
  | .yes e, ρ => (evE e true ρ).bind fun r => match r.2 with
    | .bool k => some k
    | _ => none
def evI : I → Bool → Sl → Option (List PyData)
  | .rng es, _, ρ => (evEs es true ρ).bind evRng
  | .seq e, b, ρ => (evE e b ρ).bind fun r => itemsOf r.2
end
/-- a test -/
def evT (e : E) (ρ : Sl) : Option Bool := (evE e true ρ).bind fun r => match r.2 with
  | .bool k => some k
  | _ => none
/-- what is returned: an owned list moves -/
def evRet : E → Sl → Option R
  | .v i, ρ => match ρ[i]? with
    | some (some r) => lessR r
    | _ => none
  | e, ρ => evE e false ρ

/-! ### statements -/
inductive Out where
  | nx (ρ : Sl) | rt (r : R) | bk (ρ : Sl) | ct (ρ : Sl)
def forGo (g : G) (f : Sl → Option Out) : List PyData → Sl → Option Out
  | [], ρ => some (.nx ρ)
  | d :: ds, ρ => match asg g d ρ with
    | none => none
    | some ρ1 => match f ρ1 with
      | some (.nx ρ2) => forGo g f ds ρ2
      | some (.ct ρ2) => forGo g f ds ρ2
      | some (.bk ρ2) => some (.nx ρ2)
      | some (.rt r) => some (.rt r)
      | none => none
def whileGo (c : Sl → Option Bool) (f : Sl → Option Out) : Nat → Sl → Option Out
  | 0, _ => none
  | n + 1, ρ => match c ρ with
    | none => none
    | some false => some (.nx ρ)
    | some true => match f ρ with
      | some (.nx ρ2) => whileGo c f n ρ2
      | some (.ct ρ2) => whileGo c f n ρ2
      | some (.bk ρ2) => some (.nx ρ2)
      | some (.rt r) => some (.rt r)
      | none => none
/-- an owned list in slot i -/
def own (ρ : Sl) (i : Nat) : Option (List PyData) := match ρ[i]? with
  | some (some (true, .list ds)) => some ds
  | _ => none
def putD : List PyData → Int → PyData → Option (List PyData)
  | ds, i, d => (L2.ixN ds.length i).map fun j => ds.set j d
mutual
def evS (n : Nat) : S → Sl → Option Out
  | .asg g e, ρ => (evE e false ρ).bind fun r => (asgR g r ρ).map .nx
  | .asgs i e, ρ => (evE e false ρ).map fun r => .nx (ρ.set i (some (false, r.2)))
  | .par i j a b, ρ => (evE a false ρ).bind fun r => (evE b false ρ).map fun s => .nx ((ρ.set i (some r)).set j (some s))
  | .par3 i j l a b d, ρ => (evE a false ρ).bind fun r => (evE b false ρ).bind fun s => (evE d false ρ).map fun t => .nx (((ρ.set i (some r)).set j (some s)).set l (some t))
  | .app i e, ρ => (own ρ i).bind fun ds => (evE e false ρ).bind fun r => if lenOk (ds.length + 1) then some (.nx (ρ.set i (some (true, .list (ds ++ [r.2]))))) else none
  | .ext i e, ρ => (own ρ i).bind fun ds => (evE e false ρ).bind fun r => match r.2 with
    | .list es => if lenOk (ds.length + es.length) then some (.nx (ρ.set i (some (true, .list (ds ++ es))))) else none
    | .tuple es => if lenOk (ds.length + es.length) then some (.nx (ρ.set i (some (true, .list (ds ++ es))))) else none
    | _ => none
  | .ins i a e, ρ => (own ρ i).bind fun ds => (evE a true ρ).bind fun k => (evE e false ρ).bind fun r => match k.2 with
    | .int j => if decide (0 ≤ j) && decide (j < 1000000000) && lenOk (ds.length + 1) then some (.nx (ρ.set i (some (true, .list (ds.take j.toNat ++ [r.2] ++ ds.drop j.toNat))))) else none
    | _ => none
  | .put i a e, ρ => (evE e false ρ).bind fun r => (own ρ i).bind fun ds => (evE a true ρ).bind fun k => match k.2 with
    | .int j => (putD ds j r.2).map fun ds' => .nx (ρ.set i (some (true, .list ds')))
    | _ => none
  | .pop g i, ρ => (own ρ i).bind fun ds => match ds.getLast? with
    | none => none
    | some d => (asg g d (ρ.set i (some (true, .list ds.dropLast)))).map .nx
  | .ret e, ρ => (evRet e ρ).map .rt
  | .retN, _ => some (.rt (false, .none))
  | .ite c a b, ρ => (evT c ρ).bind fun k => match k with
    | true => evSs n a ρ
    | false => evSs n b ρ
  | .for_ g it b, ρ => (evI it false ρ).bind fun ds => forGo g (fun ρ => evSs n b ρ) ds ρ
  | .while_ c b, ρ => whileGo (fun ρ => evT c ρ) (fun ρ => evSs n b ρ) n ρ
  | .share i, ρ => match ρ[i]? with
    | some (some (true, .list ds)) => some (.nx (ρ.set i (some (false, .list ds))))
    | some (some (true, .tuple rows)) => some (.nx (ρ.set i (some (false, .list rows))))
    | some (some (true, .dict _)) => some (.nx (ρ.set i none))
    | some (some (true, _)) => none
    | _ => some (.nx ρ)
  | .newD i own g it elt, ρ => (evI it true ρ).bind fun ds => (compGo (fun d => (asg g d (wipeR ρ own)).bind fun ρ2 => (evE elt false ρ2).bind rowR) ds).map fun rows => .nx (ρ.set i (some (true, .tuple rows)))
  | .put2 i a b e, ρ => (evE e false ρ).bind fun r => (slot ρ i).bind fun q => (rowsOf q).bind fun rows => (evE a true ρ).bind fun x => (asInt x.2).bind fun j => (L2.ixN rows.length j).bind fun m => (evE b true ρ).bind fun y => (asInt y.2).bind fun l => (rows[m]?).bind fun row => (listIt row).bind fun ds => (putD ds l r.2).map fun ds' =>
      .nx (ρ.set i (some (true, .tuple (rows.set m (.list ds')))))
  | .app2 i a e, ρ => (slot ρ i).bind fun q => (rowsOf q).bind fun rows => (evE a true ρ).bind fun x => (asInt x.2).bind fun j => (L2.ixN rows.length j).bind fun m => (rows[m]?).bind fun row => (listIt row).bind fun ds => (evE e false ρ).bind fun r => if lenOk (ds.length + 1) then some (.nx (ρ.set i (some (true, .tuple (rows.set m (.list (ds ++ [r.2]))))))) else none
  | .newM i t, ρ => some (.nx (ρ.set i (some (true, .dict [(.none, .bool t)]))))
  | .putM i a e, ρ => (evE e false ρ).bind fun r => (slot ρ i).bind fun q => (dictOf q).bind fun tk => (evE a false ρ).bind fun k => if keyOk tk.1 k.2 && lenOk (tk.2.length + 1) then some (.nx (ρ.set i (some (true, .dict ((.none, .bool tk.1) :: putKv tk.2 k.2 r.2))))) else none
  | .never, _ => none
def evSs (n : Nat) : Ss → Sl → Option Out
  | .nil, ρ => some (.nx ρ)
  | .cons s ss, ρ => match evS n s ρ with
    | some (.nx ρ2) => evSs n ss ρ2
    | o => o
end
def startR (n : Nat) (ds : List PyData) : Sl := ds.map (fun d => some (false, d)) ++ List.replicate (n - ds.length) none
/-- a def: n turns for each while, np parameters, nl names -/
def evDef (n np nl : Nat) (body : Ss) : Fn := fun ds => if ds.length = np then match evSs n body (startR nl ds) with
  | some (.rt r) => some r
  | some (.nx _) => some (false, .none)
  | _ => none
  else none
end PV

set_option Elab.async false
set_option linter.all false
set_option maxRecDepth 100000
/-! PV2: how values lie in the heap (Rp), owned slots (Ok). -/
namespace PV
open PySem PySem.Spec PyProof.Rows L2

/-- a tuple of the written part -/
def Kt (K : PySem.W.Frag) (a : Addr) (xs : List V) : Prop :=
  ∃ (o : Obj) (its : Array Value) (n : Nat), K.lookup a = some o ∧ o.cls = .type "tuple" ∧ o.data = .seq its n ∧ its.size ≤ sizeLine ∧ Vals xs its.toList
mutual
/-- v stands for d; no list or tuple of it lies at an address of O -/
inductive Rp (K : PySem.W.Frag) (H : Hp) (O : Addr → Prop) : V → PyData → Prop
  | non : Rp K H O .non .none
  | bl (b : Bool) : Rp K H O (.bl b) (.bool b)
  | int (i : Int) : Rp K H O (.int i) (.int i)
  | str (x : Str) : Rp K H O (.str x) (.str x)
  | lst {a : Addr} {xs : List V} {ds : List PyData} : Rd H a (.lst xs) → ¬ O a → RpA K H O xs ds → Rp K H O (.ref a) (.list ds)
  | tup {a : Addr} {xs : List V} {ds : List PyData} : ((H a = some (.tup xs) ∧ ¬ O a) ∨ Kt K a xs) → RpA K H O xs ds → Rp K H O (.ref a) (.tuple ds)
inductive RpA (K : PySem.W.Frag) (H : Hp) (O : Addr → Prop) : List V → List PyData → Prop
  | nil : RpA K H O [] []
  | cons {v : V} {vs : List V} {d : PyData} {ds : List PyData} : Rp K H O v d → RpA K H O vs ds → RpA K H O (v :: vs) (d :: ds)
end
section
variable {K : PySem.W.Frag} {H H' : Hp} {O O' : Addr → Prop}
theorem rd_keep {a : Addr} {u : HO} (h : Rd H a u) (k : ∀ a o, H a = some o → ¬ O a → H' a = some o) (n : ¬ O a) : Rd H' a u := by
  rcases h with h | ⟨o, h⟩
  · exact .inl (k _ _ h n)
  · exact .inr ⟨o, k _ _ h n⟩
theorem rd_some {a : Addr} {u : HO} (h : Rd H a u) : H a ≠ Option.none := by
  rcases h with h | ⟨o, h⟩ <;> rw [h] <;> exact fun z => nomatch z
mutual
theorem Rp.keep (k : ∀ a o, H a = some o → ¬ O a → H' a = some o) (hO : ∀ a, O' a → O a ∨ H a = none) : ∀ (d : PyData) (v : V), Rp K H O v d → Rp K H' O' v d
  | .none, _, h => by cases h; exact .non
  | .bool b, _, h => by cases h; exact .bl b
  | .int i, _, h => by cases h; exact .int i
  | .str x, _, h => by cases h; exact .str x
  | .list ds, _, h => by
    cases h with
    | lst h1 h2 h3 => exact .lst (rd_keep h1 k h2) (fun z => (hO _ z).elim h2 (rd_some h1)) (RpA.keep k hO ds _ h3)
  | .tuple ds, _, h => by
    cases h with
    | tup h1 h3 =>
      refine .tup ?_ (RpA.keep k hO ds _ h3)
      rcases h1 with ⟨h1, h2⟩ | h1
      · exact .inl ⟨k _ _ h1 h2, fun z => (hO _ z).elim h2 (rd_some (.inl h1))⟩
      · exact .inr h1
  | .dict _, _, h => by cases h
theorem RpA.keep (k : ∀ a o, H a = some o → ¬ O a → H' a = some o) (hO : ∀ a, O' a → O a ∨ H a = none) : ∀ (ds : List PyData) (vs : List V), RpA K H O vs ds → RpA K H' O' vs ds
  | [], _, h => by cases h; exact .nil
  | d :: ds, _, h => by
    cases h with
    | cons h1 h2 => exact .cons (Rp.keep k hO d _ h1) (RpA.keep k hO ds _ h2)
end
/-- all kept -/
theorem Rp.same {v : V} {d : PyData} (s : Same H H') (h : Rp K H O v d) : Rp K H' O v d := Rp.keep (fun a o e _ => s a o e) (fun _ z => .inl z) d v h
theorem RpA.same {vs : List V} {ds : List PyData} (s : Same H H') (h : RpA K H O vs ds) : RpA K H' O vs ds := RpA.keep (fun a o e _ => s a o e) (fun _ z => .inl z) ds vs h
/-- fewer owned ones -/
theorem Rp.less {v : V} {d : PyData} (h : Rp K H O v d) (hO : ∀ a, O' a → O a) : Rp K H O' v d := Rp.keep (fun _ _ e _ => e) (fun a z => .inl (hO a z)) d v h
theorem RpA.less {vs : List V} {ds : List PyData} (h : RpA K H O vs ds) (hO : ∀ a, O' a → O a) : RpA K H O' vs ds := RpA.keep (fun _ _ e _ => e) (fun a z => .inl (hO a z)) ds vs h
theorem RpA.length : ∀ {vs : List V} {ds : List PyData}, RpA K H O vs ds → vs.length = ds.length
  | _, _, .nil => rfl
  | _, _, .cons _ h => by simp [RpA.length h]
theorem RpA.get : ∀ {vs : List V} {ds : List PyData} {i : Nat} {d : PyData}, RpA K H O vs ds → ds[i]? = some d → ∃ v, vs[i]? = some v ∧ Rp K H O v d
  | _, _, _, _, .nil, e => by simp at e
  | _, _, 0, _, .cons h _, e => by simp at e; subst e; exact ⟨_, rfl, h⟩
  | _, _, i + 1, _, .cons _ h, e => by simpa using RpA.get h (by simpa using e)
theorem RpA.getV : ∀ {vs : List V} {ds : List PyData} {i : Nat} {v : V}, RpA K H O vs ds → vs[i]? = some v → ∃ d, ds[i]? = some d ∧ Rp K H O v d
  | _, _, _, _, .nil, e => by simp at e
  | _, _, 0, _, .cons h _, e => by simp at e; subst e; exact ⟨_, rfl, h⟩
  | _, _, i + 1, _, .cons _ h, e => by simpa using RpA.getV h (by simpa using e)
theorem RpA.append : ∀ {xs ys : List V} {ds es : List PyData}, RpA K H O xs ds → RpA K H O ys es → RpA K H O (xs ++ ys) (ds ++ es)
  | _, _, _, _, .nil, h => h
  | _, _, _, _, .cons h t, h' => .cons h (RpA.append t h')
theorem RpA.one {v : V} {d : PyData} (h : Rp K H O v d) : RpA K H O [v] [d] := .cons h .nil
theorem RpA.take : ∀ {xs : List V} {ds : List PyData} (n : Nat), RpA K H O xs ds → RpA K H O (xs.take n) (ds.take n)
  | _, _, 0, _ => .nil
  | _, _, _ + 1, .nil => .nil
  | _, _, n + 1, .cons h t => .cons h (RpA.take n t)
theorem RpA.drop : ∀ {xs : List V} {ds : List PyData} (n : Nat), RpA K H O xs ds → RpA K H O (xs.drop n) (ds.drop n)
  | _, _, 0, h => h
  | _, _, _ + 1, .nil => .nil
  | _, _, n + 1, .cons _ t => RpA.drop n t
theorem RpA.set {v : V} {d : PyData} (h : Rp K H O v d) : ∀ {xs : List V} {ds : List PyData} (i : Nat), RpA K H O xs ds → RpA K H O (xs.set i v) (ds.set i d)
  | _, _, _, .nil => .nil
  | _, _, 0, .cons _ t => .cons h t
  | _, _, i + 1, .cons q t => .cons q (RpA.set h i t)
theorem RpA.reverse {xs : List V} {ds : List PyData} (h : RpA K H O xs ds) : RpA K H O xs.reverse ds.reverse := by
  have go : ∀ {xs : List V} {ds : List PyData}, RpA K H O xs ds → RpA K H O xs.reverse ds.reverse := by
    intro xs
    induction xs with
    | nil => intro ds h; cases h; exact .nil
    | cons x xs ih =>
      intro ds h
      cases h with
      | cons h t =>
        rw [List.reverse_cons, List.reverse_cons]
        exact RpA.append (ih t) (.one h)
  exact go h
theorem RpA.dropLast {xs : List V} {ds : List PyData} (h : RpA K H O xs ds) : RpA K H O xs.dropLast ds.dropLast := by
  rw [List.dropLast_eq_take, List.dropLast_eq_take, h.length]
  exact h.take _
theorem RpA.rep {xs : List V} {ds : List PyData} (h : RpA K H O xs ds) : ∀ k : Nat, RpA K H O (List.replicate k xs).flatten (List.replicate k ds).flatten
  | 0 => .nil
  | k + 1 => by
    rw [List.replicate_succ, List.replicate_succ, List.flatten_cons, List.flatten_cons]
    exact h.append (RpA.rep h k)
theorem RpA.each {xs : List V} {ds : List PyData} (hl : xs.length = ds.length) (h : ∀ (i : Nat) v d, xs[i]? = some v → ds[i]? = some d → Rp K H O v d) : RpA K H O xs ds := by
  induction xs generalizing ds with
  | nil =>
    cases ds with
    | nil => exact .nil
    | cons d ds => simp at hl
  | cons x xs ih =>
    cases ds with
    | nil => simp at hl
    | cons d ds => exact .cons (h 0 x d rfl rfl) (ih (by simpa using hl) fun i v d e1 e2 => h (i + 1) v d (by simpa using e1) (by simpa using e2))
theorem Kt.sq {a : Addr} {xs : List V} (h : Kt K a xs) : SqT K H a xs := .inr h
mutual
theorem Rp.dp : ∀ (d : PyData) (v : V), Rp K H O v d → Dp K H v d
  | .none, _, h => by cases h; exact .non
  | .bool b, _, h => by cases h; exact .bl b
  | .int i, _, h => by cases h; exact .int i
  | .str x, _, h => by cases h; exact .str x
  | .list ds, _, h => by
    cases h with
    | lst h1 h2 h3 => exact .lst (.inl h1) (RpA.dp ds _ h3)
  | .tuple ds, _, h => by
    cases h with
    | tup h1 h3 =>
      refine .tup ?_ (RpA.dp ds _ h3)
      rcases h1 with ⟨h1, h2⟩ | h1
      · exact .inl (.inl h1)
      · exact .inr h1
  | .dict _, _, h => by cases h
theorem RpA.dp : ∀ (ds : List PyData) (vs : List V), RpA K H O vs ds → DpAll K H vs ds
  | [], _, h => by cases h; exact .nil
  | d :: ds, _, h => by
    cases h with
    | cons h1 h2 => exact .cons (Rp.dp d _ h1) (RpA.dp ds _ h2)
end
theorem rpA_ints {ns : List Int} : RpA K H O (ns.map V.int) (ns.map PyData.int) := by
  induction ns with
  | nil => exact .nil
  | cons n ns ih => exact .cons (.int n) ih
theorem intsOf_eq : ∀ {ds : List PyData} {ns : List Int}, intsOf ds = some ns → ds = ns.map PyData.int
  | [], ns, h => by cases h; rfl
  | .int i :: ds, ns, h => by
    cases e : intsOf ds with
    | none => simp [intsOf, e] at h
    | some l =>
      simp [intsOf, e] at h
      subst h
      rw [intsOf_eq e]
      rfl
  | .none :: _, _, h => by simp [intsOf] at h
  | .bool _ :: _, _, h => by simp [intsOf] at h
  | .str _ :: _, _, h => by simp [intsOf] at h
  | .list _ :: _, _, h => by simp [intsOf] at h
  | .tuple _ :: _, _, h => by simp [intsOf] at h
  | .dict _ :: _, _, h => by simp [intsOf] at h
theorem rpA_int_inv : ∀ {ns : List Int} {vs : List V}, RpA K H O vs (ns.map PyData.int) → vs = ns.map V.int
  | [], _, h => by cases h; rfl
  | n :: ns, _, h => by
    cases h with
    | cons h t => cases h; rw [rpA_int_inv t]; rfl
end

/-- what may be owned: lists, dicts -/
def OO (o : HO) : Prop := (∃ xs, o = .lst xs) ∨ (∃ ys, o = .dT ys) ∨ ∃ ys, o = .dK ys
theorem OO.l (xs : List V) : OO (.lst xs) := .inl ⟨xs, rfl⟩
section
variable {K : PySem.W.Frag} {H : Hp} {P P' : Addr → Prop}
theorem rd_tup {a : Addr} {xs : List V} (h : Rd H a (.tup xs)) (hP : ∀ a, P' a → ∃ o, H a = some o ∧ OO o) : ¬ P' a := fun z => by
  obtain ⟨o, q, ho⟩ := hP a z
  rcases ho with ⟨_, rfl⟩ | ⟨_, rfl⟩ | ⟨_, rfl⟩ <;> rcases h with h | ⟨o, h⟩ <;> (rw [q] at h; cases h)
mutual
/-- where no list lies within, all lists may be owned -/
theorem Rp.nolist (hP : ∀ a, P' a → ∃ o, H a = some o ∧ OO o) : ∀ (d : PyData) (v : V), PV.nolist d = true → Rp K H P v d → Rp K H P' v d
  | .none, _, _, h => by cases h; exact .non
  | .bool b, _, _, h => by cases h; exact .bl b
  | .int i, _, _, h => by cases h; exact .int i
  | .str x, _, _, h => by cases h; exact .str x
  | .list ds, _, n, h => by cases n
  | .tuple ds, _, n, h => by
    cases h with
    | tup h1 h3 =>
      refine .tup ?_ (RpA.nolist hP ds _ (by simpa [PV.nolist] using n) h3)
      rcases h1 with ⟨h1, h2⟩ | h1
      · exact .inl ⟨h1, rd_tup (.inl h1) hP⟩
      · exact .inr h1
  | .dict _, _, _, h => by cases h
theorem RpA.nolist (hP : ∀ a, P' a → ∃ o, H a = some o ∧ OO o) : ∀ (ds : List PyData) (vs : List V), nolistA ds = true → RpA K H P vs ds → RpA K H P' vs ds
  | [], _, _, h => by cases h; exact .nil
  | d :: ds, _, n, h => by
    have n' : PV.nolist d = true ∧ nolistA ds = true := by simpa [nolistA] using n
    cases h with
    | cons h1 h2 => exact .cons (Rp.nolist hP d _ n'.1 h1) (RpA.nolist hP ds _ n'.2 h2)
end
end

/-- as Rp, or an owned list's items -/
def RpB (K : PySem.W.Frag) (H : Hp) (P : Addr → Prop) (v : V) (d : PyData) : Prop :=
  Rp K H P v d ∨ ∃ a xs ds, v = .ref a ∧ d = .list ds ∧ H a = some (.lst xs) ∧ RpA K H P xs ds
/-- an expression's value: new lists are told -/
def RpR (K : PySem.W.Frag) (H0 H : Hp) (P : Addr → Prop) (b : Bool) (v : V) : R → Prop
  | (true, d) => ∃ a xs ds, v = .ref a ∧ d = .list ds ∧ H a = some (.lst xs) ∧ H0 a = none ∧ RpA K H (fun x => P x ∨ x = a) xs ds
  | (false, d) => if b then RpB K H P v d else Rp K H P v d
/-- where the k-th own list of slot i stands in A -/
def vt (i k : Nat) : Nat := 1000 * (k + 1) + i
def KvT (K : PySem.W.Frag) (H : Hp) (P : Addr → Prop) (ys : List (List Key × V)) (kvs : List (PyData × PyData)) : Prop :=
  Paired (fun p q => (∃ ns : List Int, p.1 = ns.map Sum.inl ∧ q.1 = .tuple (ns.map .int)) ∧ Rp K H P p.2 q.2) ys kvs
def KvK (K : PySem.W.Frag) (H : Hp) (P : Addr → Prop) (ys : List (Key × V)) (kvs : List (PyData × PyData)) : Prop :=
  Paired (fun p q => (∃ n : Int, p.1 = Sum.inl n ∧ q.1 = .int n) ∧ Rp K H P p.2 q.2) ys kvs
/-- what stands at an owned address: a list, a list of own lists, a dict -/
def Own (K : PySem.W.Frag) (H : Hp) (P : Addr → Prop) (A : Nat → Option Addr) (i : Nat) (a : Addr) : PyData → Prop
  | .list ds => ∃ xs, H a = some (.lst xs) ∧ RpA K H P xs ds
  | .tuple rows => ∃ bs : List Addr, H a = some (.lst (bs.map V.ref)) ∧ bs.length = rows.length ∧ ∀ k b row, bs[k]? = some b → rows[k]? = some row → A (vt i k) = some b ∧ ∃ xs ds, row = .list ds ∧ H b = some (.lst xs) ∧ RpA K H P xs ds
  | .dict ((.none, .bool true) :: kvs) => ∃ ys, H a = some (.dT ys) ∧ KvT K H P ys kvs
  | .dict ((.none, .bool false) :: kvs) => ∃ ys, H a = some (.dK ys) ∧ KvK K H P ys kvs
  | _ => False
/-- what a slot holds -/
def RpS (K : PySem.W.Frag) (H : Hp) (P : Addr → Prop) (A : Nat → Option Addr) (i : Nat) (v : V) : R → Prop
  | (false, d) => Rp K H P v d
  | (true, d) => ∃ a, A i = some a ∧ v = .ref a ∧ Own K H P A i a d
/-- the owned addresses -/
def Ow (O : Addr → Prop) (A : Nat → Option Addr) : Addr → Prop := fun a => O a ∨ ∃ i, A i = some a
structure Ok (K : PySem.W.Frag) (O : Addr → Prop) (H0 : Hp) (A : Nat → Option Addr) (H : Hp) (σ : L2.St) (ρ : Sl) : Prop where
  len : σ.length = ρ.length
  sm : ρ.length ≤ 1000
  grow : Same H0 H
  inj : ∀ i j a, A i = some a → A j = some a → i = j
  new : ∀ i a, A i = some a → H0 a = none
  dom : ∀ i a, A i = some a → ∃ o, H a = some o ∧ OO o
  odom : ∀ a, O a → ∃ o, H0 a = some o ∧ OO o
  val : ∀ i r, ρ[i]? = some (some r) → ∃ v, σ[i]? = some (some v) ∧ RpS K H (Ow O A) A i v r
section
variable {K : PySem.W.Frag} {H H' : Hp} {P P' : Addr → Prop} {A A' : Nat → Option Addr}
theorem KvT.keep (k : ∀ a o, H a = some o → ¬ P a → H' a = some o) (hO : ∀ a, P' a → P a ∨ H a = none) {ys : List (List Key × V)} {kvs : List (PyData × PyData)} (h : KvT K H P ys kvs) : KvT K H' P' ys kvs :=
  Paired.mapP h fun p q z => ⟨z.1, Rp.keep k hO _ _ z.2⟩
theorem KvK.keep (k : ∀ a o, H a = some o → ¬ P a → H' a = some o) (hO : ∀ a, P' a → P a ∨ H a = none) {ys : List (Key × V)} {kvs : List (PyData × PyData)} (h : KvK K H P ys kvs) : KvK K H' P' ys kvs :=
  Paired.mapP h fun p q z => ⟨z.1, Rp.keep k hO _ _ z.2⟩
theorem Own.keep {i : Nat} {a : Addr} {d : PyData} (k : ∀ a o, H a = some o → ¬ P a → H' a = some o) (hO : ∀ a, P' a → P a ∨ H a = none) (ha : ∀ o, H a = some o → H' a = some o)
    (hA : ∀ j b, A (vt i j) = some b → A' (vt i j) = some b ∧ ∀ o, H b = some o → H' b = some o) (h : Own K H P A i a d) : Own K H' P' A' i a d := by
  unfold Own at h ⊢
  split at h
  · obtain ⟨xs, h1, h2⟩ := h
    exact ⟨xs, ha _ h1, RpA.keep k hO _ _ h2⟩
  · obtain ⟨bs, h1, h2, h3⟩ := h
    refine ⟨bs, ha _ h1, h2, fun m b row e1 e2 => ?_⟩
    obtain ⟨q1, xs, ds, q2, q3, q4⟩ := h3 m b row e1 e2
    obtain ⟨q5, q6⟩ := hA m b q1
    exact ⟨q5, xs, ds, q2, q6 _ q3, RpA.keep k hO _ _ q4⟩
  · obtain ⟨ys, h1, h2⟩ := h
    exact ⟨ys, ha _ h1, h2.keep k hO⟩
  · obtain ⟨ys, h1, h2⟩ := h
    exact ⟨ys, ha _ h1, h2.keep k hO⟩
  · exact h.elim
theorem vt_mod {i k : Nat} (h : i < 1000) : vt i k % 1000 = i := by unfold vt; omega
theorem vt_ne {i j k : Nat} : i < 1000 → vt j k ≠ i := by unfold vt; omega
theorem RpS.keep {i : Nat} {v : V} {r : R} (k : ∀ a o, H a = some o → ¬ P a → H' a = some o) (hO : ∀ a, P' a → P a ∨ H a = none)
    (hA : ∀ j b, j = i ∨ (∃ m, j = vt i m) → A j = some b → A' j = some b ∧ ∀ o, H b = some o → H' b = some o) (h : RpS K H P A i v r) : RpS K H' P' A' i v r := by
  obtain ⟨fl, d⟩ := r
  cases fl with
  | false => exact Rp.keep k hO _ _ h
  | true =>
    obtain ⟨a, e1, e2, h⟩ := h
    obtain ⟨q1, q2⟩ := hA i a (.inl rfl) e1
    exact ⟨a, q1, e2, h.keep k hO q2 fun j b e => hA _ b (.inr ⟨j, rfl⟩) e⟩
end
section
variable {K : PySem.W.Frag} {O : Addr → Prop} {H0 H H' : Hp} {A : Nat → Option Addr} {σ : L2.St} {ρ : Sl}
theorem RpB.same {P : Addr → Prop} {v : V} {d : PyData} (s : Same H H') (h : RpB K H P v d) : RpB K H' P v d := by
  rcases h with h | ⟨a, xs, ds, e1, e2, e3, h⟩
  · exact .inl (h.same s)
  · exact .inr ⟨a, xs, ds, e1, e2, s _ _ e3, h.same s⟩
theorem RpB.dp {P : Addr → Prop} {v : V} {d : PyData} (h : RpB K H P v d) : Dp K H v d := by
  rcases h with h | ⟨a, xs, ds, e1, e2, e3, h⟩
  · exact Rp.dp _ _ h
  · subst e1 e2
    exact .lst (.inl (.inl e3)) (RpA.dp _ _ h)
theorem RpB.list {P : Addr → Prop} {v : V} {ds : List PyData} (h : RpB K H P v (.list ds)) : ∃ a xs, v = .ref a ∧ Rd H a (.lst xs) ∧ RpA K H P xs ds := by
  rcases h with h | ⟨a, xs, ds', e1, e2, e3, h⟩
  · cases h with
    | lst h1 h2 h3 => exact ⟨_, _, rfl, h1, h3⟩
  · cases e2
    exact ⟨a, xs, e1, .inl e3, h⟩
theorem RpB.tuple {P : Addr → Prop} {v : V} {ds : List PyData} (h : RpB K H P v (.tuple ds)) : ∃ a xs, v = .ref a ∧ SqT K H a xs ∧ RpA K H P xs ds := by
  rcases h with h | ⟨a, xs, ds', e1, e2, e3, h⟩
  · cases h with
    | tup h1 h3 =>
      rcases h1 with ⟨h1, _⟩ | h1
      · exact ⟨_, _, rfl, .inl (.inl h1), h3⟩
      · exact ⟨_, _, rfl, .inr h1, h3⟩
  · cases e2
theorem RpB.int {P : Addr → Prop} {v : V} {i : Int} (h : RpB K H P v (.int i)) : v = .int i := by
  rcases h with h | ⟨a, xs, ds', e1, e2, e3, h⟩
  · cases h; rfl
  · cases e2
theorem RpB.bool {P : Addr → Prop} {v : V} {k : Bool} (h : RpB K H P v (.bool k)) : v = .bl k := by
  rcases h with h | ⟨a, xs, ds', e1, e2, e3, h⟩
  · cases h; rfl
  · cases e2
theorem RpB.none {P : Addr → Prop} {v : V} (h : RpB K H P v .none) : v = .non := by
  rcases h with h | ⟨a, xs, ds', e1, e2, e3, h⟩
  · cases h; rfl
  · cases e2
theorem RpB.notnone {P : Addr → Prop} {v : V} {d : PyData} (h : RpB K H P v d) : decide (v = .non) = isNone d := by
  rcases h with h | ⟨a, xs, ds', e1, e2, e3, h⟩
  · cases h <;> rfl
  · subst e1 e2; rfl
/-- new lists become shared -/
theorem Ok.down (ok : Ok K O H0 A H σ ρ) (s : Same H H') {v : V} {r : R} (h : RpR K H H' (Ow O A) false v r) : Rp K H' (Ow O A) v r.2 := by
  obtain ⟨fl, d⟩ := r
  cases fl with
  | false => exact h
  | true =>
    obtain ⟨a, xs, ds, rfl, e2, e3, e4, h⟩ := h
    have e2 : d = .list ds := e2
    subst e2
    refine .lst (.inl e3) (fun z => ?_) (h.less fun x z => .inl z)
    rcases z with z | ⟨i, z⟩
    · obtain ⟨ys, q, -⟩ := ok.odom a z
      rw [ok.grow a _ q] at e4; cases e4
    · obtain ⟨xs, q, -⟩ := ok.dom i a z
      rw [q] at e4; cases e4
theorem Ok.downB (ok : Ok K O H0 A H σ ρ) (s : Same H H') {v : V} {r : R} (h : RpR K H H' (Ow O A) true v r) : RpB K H' (Ow O A) v r.2 := by
  obtain ⟨fl, d⟩ := r
  cases fl with
  | false => exact h
  | true =>
    obtain ⟨a, xs, ds, e1, e2, e3, e4, h⟩ := h
    exact .inr ⟨a, xs, ds, e1, e2, e3, h.less fun x z => .inl z⟩
theorem RpS.same {P : Addr → Prop} {i : Nat} {v : V} {r : R} (s : Same H H') (h : RpS K H P A i v r) : RpS K H' P A i v r :=
  RpS.keep (fun a o e _ => s a o e) (fun _ z => .inl z) (fun j b _ e => ⟨e, fun o q => s b o q⟩) h
theorem Ok.same (ok : Ok K O H0 A H σ ρ) (s : Same H H') : Ok K O H0 A H' σ ρ where
  len := ok.len
  sm := ok.sm
  grow := ok.grow.trans s
  inj := ok.inj
  new := ok.new
  dom := fun i a e => let ⟨xs, q, z⟩ := ok.dom i a e; ⟨xs, s _ _ q, z⟩
  odom := ok.odom
  val := fun i r e => let ⟨v, e1, h⟩ := ok.val i r e; ⟨v, e1, h.same s⟩
/-- what is owned is there -/
theorem Ok.own_some (ok : Ok K O H0 A H σ ρ) {a : Addr} (h : Ow O A a) : H a ≠ none := by
  rcases h with z | ⟨i, z⟩
  · obtain ⟨xs, q, -⟩ := ok.odom a z
    rw [ok.grow a _ q]; exact fun z => nomatch z
  · obtain ⟨xs, q, -⟩ := ok.dom i a z
    rw [q]; exact fun z => nomatch z
theorem Ok.own_lst (ok : Ok K O H0 A H σ ρ) {a : Addr} (h : Ow O A a) : ∃ o, H a = some o ∧ OO o := by
  rcases h with z | ⟨i, z⟩
  · obtain ⟨xs, q, w⟩ := ok.odom a z
    exact ⟨xs, ok.grow a _ q, w⟩
  · exact ok.dom i a z
theorem Ok.fresh (ok : Ok K O H0 A H σ ρ) {a : Addr} (h : H a = none) : ¬ Ow O A a := fun z => ok.own_some z h
/-- a shared value goes into a slot -/
theorem Ok.set (ok : Ok K O H0 A H σ ρ) {i : Nat} {v : V} {d : PyData} (h : Rp K H (Ow O A) v d) : Ok K O H0 A H (σ.set i (some v)) (ρ.set i (some (false, d))) where
  len := by rw [List.length_set, List.length_set, ok.len]
  sm := by rw [List.length_set]; exact ok.sm
  grow := ok.grow
  inj := ok.inj
  new := ok.new
  dom := ok.dom
  odom := ok.odom
  val := fun j r e => by
    by_cases hj : i = j
    · subst hj
      by_cases hl : i < ρ.length
      · rw [List.getElem?_set_self hl] at e
        cases e
        exact ⟨v, by rw [List.getElem?_set_self (by rw [ok.len]; exact hl)], h⟩
      · rw [List.getElem?_eq_none (by simpa using hl)] at e; cases e
    · rw [List.getElem?_set_ne hj] at e
      obtain ⟨v', e1, h'⟩ := ok.val j r e
      exact ⟨v', by rw [List.getElem?_set_ne hj]; exact e1, h'⟩
/-- slots forgotten -/
theorem Ok.wipe (ok : Ok K O H0 A H σ ρ) (vs : List Nat) : Ok K O H0 A H (wipe σ vs) (wipeR ρ vs) := by
  have ex : ∀ vs : List Nat, (wipeR ρ vs).length = ρ.length ∧ ∀ (i : Nat) r, (wipeR ρ vs)[i]? = some (some r) → ρ[i]? = some (some r) ∧ i ∉ vs := by
    intro vs
    induction vs with
    | nil => exact ⟨rfl, fun i r e => ⟨e, by simp⟩⟩
    | cons v vs ih =>
      refine ⟨by show ((wipeR ρ vs).set v none).length = _; rw [List.length_set]; exact ih.1, fun i r e => ?_⟩
      have e : ((wipeR ρ vs).set v none)[i]? = some (some r) := e
      by_cases hi : v = i
      · subst hi
        by_cases hl : v < (wipeR ρ vs).length
        · rw [List.getElem?_set_self hl] at e; cases e
        · rw [List.getElem?_eq_none (by simpa using hl)] at e; cases e
      · rw [List.getElem?_set_ne hi] at e
        obtain ⟨h1, h2⟩ := ih.2 i r e
        exact ⟨h1, by simp only [List.mem_cons, not_or]; exact ⟨fun z => hi z.symm, h2⟩⟩
  refine ⟨by rw [wipe_length, (ex vs).1, ok.len], by rw [(ex vs).1]; exact ok.sm, ok.grow, ok.inj, ok.new, ok.dom, ok.odom, fun i r e => ?_⟩
  obtain ⟨h1, h2⟩ := (ex vs).2 i r e
  obtain ⟨v, e1, h⟩ := ok.val i r h1
  exact ⟨v, by rw [wipe_out h2]; exact e1, h⟩
theorem nodup_at {l : List Addr} (h : l.Nodup) {m n : Nat} (h1 : m < l.length) (h2 : n < l.length) (e : l[m] = l[n]) : m = n := by
  apply Classical.byContradiction
  intro c
  rcases Nat.lt_or_gt_of_ne c with c | c
  · exact List.pairwise_iff_getElem.mp h m n h1 h2 c e
  · exact List.pairwise_iff_getElem.mp h n m h2 h1 c e.symm
/-- new objects go into a slot that owns them: m own lists at bs -/
def putA (A : Nat → Option Addr) (i : Nat) (a : Addr) (bs : List Addr) : Nat → Option Addr := fun j => if i < 1000 then (if j = i then some a else if j % 1000 = i then bs[j / 1000 - 1]? else A j) else A j
theorem putA_self {A : Nat → Option Addr} {i : Nat} {a : Addr} {bs : List Addr} (h : i < 1000) : putA A i a bs i = some a := by unfold putA; rw [if_pos h, if_pos rfl]
theorem putA_vt {A : Nat → Option Addr} {i k : Nat} {a : Addr} {bs : List Addr} (h : i < 1000) : putA A i a bs (vt i k) = bs[k]? := by
  unfold putA
  rw [if_pos h, if_neg (vt_ne h), if_pos (vt_mod h)]
  congr 1
  unfold vt; omega
theorem putA_other {A : Nat → Option Addr} {i j m : Nat} {a : Addr} {bs : List Addr} (h : j ≠ i) (hj : j < 1000) (hm : m = j ∨ ∃ k, m = vt j k) : putA A i a bs m = A m := by
  unfold putA
  have e : m % 1000 = j := by
    rcases hm with rfl | ⟨k, rfl⟩
    · omega
    · exact vt_mod hj
  split
  · rw [if_neg (by omega), if_neg (by omega)]
  · rfl
theorem putA_inv {A : Nat → Option Addr} {i j : Nat} {a b : Addr} {bs : List Addr} (h : putA A i a bs j = some b) : b = a ∨ b ∈ bs ∨ A j = some b := by
  unfold putA at h
  split at h
  · split at h
    · exact .inl (Option.some.inj h).symm
    · split at h
      · exact .inr (.inl (List.mem_of_getElem? h))
      · exact .inr (.inr h)
  · exact .inr (.inr h)
/-- new objects go into a slot -/
theorem Ok.putNew (ok : Ok K O H0 A H σ ρ) {i : Nat} {a : Addr} {bs : List Addr} {d : PyData} (s : Same H H') (hn : H a = none) (ha : ∃ o, H' a = some o ∧ OO o) (hb : ∀ b ∈ bs, H b = none ∧ ∃ o, H' b = some o ∧ OO o) (nd : (a :: bs).Nodup)
    (h : i < 1000 → Own K H' (fun x => Ow O A x ∨ x = a ∨ x ∈ bs) (putA A i a bs) i a d) :
    Ok K O H0 (putA A i a bs) H' (σ.set i (some (.ref a))) (ρ.set i (some (true, d))) := by
  have sub : ∀ x, Ow O (putA A i a bs) x → Ow O A x ∨ x = a ∨ x ∈ bs := by
    intro x z
    rcases z with z | ⟨j, z⟩
    · exact .inl (.inl z)
    · rcases putA_inv z with z | z | z
      · exact .inr (.inl z)
      · exact .inr (.inr z)
      · exact .inl (.inr ⟨j, z⟩)
  have fr : ∀ x, x = a ∨ x ∈ bs → ∀ j, A j ≠ some x := fun x hx j e => by
    have n : H x = none := by
      rcases hx with rfl | hx
      · exact hn
      · exact (hb x hx).1
    exact ok.own_some (.inr ⟨j, e⟩) n
  rw [List.nodup_cons] at nd
  have nH : ∀ x, x = a ∨ x ∈ bs → H x = none := fun x hx => by
    rcases hx with rfl | hx
    · exact hn
    · exact (hb x hx).1
  -- the index of an address
  have key : ∀ j b, putA A i a bs j = some b → (i < 1000 ∧ j = i ∧ b = a) ∨ (i < 1000 ∧ j ≠ i ∧ j % 1000 = i ∧ bs[j / 1000 - 1]? = some b) ∨ (A j = some b ∧ (i < 1000 → j % 1000 ≠ i)) := fun j b e => by
    unfold putA at e
    split at e
    · rename_i hi
      split at e
      · rename_i hj
        exact .inl ⟨hi, hj, (Option.some.inj e).symm⟩
      · rename_i hj
        split at e
        · rename_i hm
          exact .inr (.inl ⟨hi, hj, hm, e⟩)
        · rename_i hm
          exact .inr (.inr ⟨e, fun _ => hm⟩)
    · rename_i hi
      exact .inr (.inr ⟨e, fun k => absurd k hi⟩)
  refine ⟨by rw [List.length_set, List.length_set, ok.len], by rw [List.length_set]; exact ok.sm, ok.grow.trans s, fun j k b e1 e2 => ?_, fun j b e => ?_, fun j b e => ?_, ok.odom, fun j r e => ?_⟩
  · rcases key j b e1 with ⟨h1, h2, h3⟩ | ⟨h1, h2, h3, h4⟩ | ⟨h1, h2⟩
    · rcases key k b e2 with ⟨k1, k2, k3⟩ | ⟨k1, k2, k3, k4⟩ | ⟨k1, k2⟩
      · omega
      · exact absurd (List.mem_of_getElem? k4) (by rw [h3]; exact nd.1)
      · exact absurd k1 (fr b (.inl h3) k)
    · rcases key k b e2 with ⟨k1, k2, k3⟩ | ⟨k1, k2, k3, k4⟩ | ⟨k1, k2⟩
      · exact absurd (List.mem_of_getElem? h4) (by rw [k3]; exact nd.1)
      · obtain ⟨l1, q1⟩ := List.getElem?_eq_some_iff.mp h4
        obtain ⟨l2, q2⟩ := List.getElem?_eq_some_iff.mp k4
        have := nodup_at nd.2 l1 l2 (q1.trans q2.symm)
        omega
      · exact absurd k1 (fr b (.inr (List.mem_of_getElem? h4)) k)
    · rcases key k b e2 with ⟨k1, k2, k3⟩ | ⟨k1, k2, k3, k4⟩ | ⟨k1, k2⟩
      · exact absurd h1 (fr b (.inl k3) j)
      · exact absurd h1 (fr b (.inr (List.mem_of_getElem? k4)) j)
      · exact ok.inj j k b h1 k1
  · rcases putA_inv e with z | z | z
    · exact ok.grow.free (nH b (.inl z))
    · exact ok.grow.free (nH b (.inr z))
    · exact ok.new j b z
  · rcases putA_inv e with z | z | z
    · rw [z]; exact ha
    · exact (hb b z).2
    · obtain ⟨o, q, w⟩ := ok.dom j b z
      exact ⟨o, s _ _ q, w⟩
  · by_cases hj : i = j
    · subst hj
      by_cases hl : i < ρ.length
      · have hi : i < 1000 := Nat.lt_of_lt_of_le hl ok.sm
        rw [List.getElem?_set_self hl] at e
        cases e
        refine ⟨.ref a, by rw [List.getElem?_set_self (by rw [ok.len]; exact hl)], a, putA_self hi, rfl, ?_⟩
        exact (h hi).keep (fun _ _ e _ => e) (fun x z => .inl (sub x z)) (fun _ e => e) fun j b e => ⟨e, fun _ q => q⟩
      · rw [List.getElem?_eq_none (by simpa using hl)] at e; cases e
    · rw [List.getElem?_set_ne hj] at e
      have hl : j < ρ.length := by
        obtain ⟨z, -⟩ := List.getElem?_eq_some_iff.mp e
        exact z
      have hi : j < 1000 := Nat.lt_of_lt_of_le hl ok.sm
      obtain ⟨v', e1, h'⟩ := ok.val j r e
      refine ⟨v', by rw [List.getElem?_set_ne hj]; exact e1, ?_⟩
      exact RpS.keep (fun _ _ e _ => s _ _ e) (fun x z => (sub x z).elim .inl fun z => .inr (nH x z)) (fun m b hm e => ⟨by rw [putA_other (fun z => hj z.symm) hi hm]; exact e, fun _ q => s _ _ q⟩) h'
/-- a new list goes into a slot that owns it -/
theorem Ok.setOwn (ok : Ok K O H0 A H σ ρ) {i : Nat} {a : Addr} {xs : List V} {ds : List PyData} (s : Same H H') (hn : H a = none) (ha : H' a = some (.lst xs)) (h : RpA K H' (fun x => Ow O A x ∨ x = a) xs ds) :
    Ok K O H0 (putA A i a []) H' (σ.set i (some (.ref a))) (ρ.set i (some (true, .list ds))) :=
  ok.putNew s hn ⟨_, ha, .l xs⟩ (fun _ z => nomatch z) (by simp) fun _ => ⟨xs, ha, h.less fun x z => z.elim .inl fun z => z.elim .inr fun z => nomatch z⟩
theorem putA_ow {O : Addr → Prop} {A : Nat → Option Addr} {i : Nat} {a : Addr} {bs : List Addr} {x : Addr} (z : Ow O (putA A i a bs) x) : Ow O A x ∨ x = a ∨ x ∈ bs := by
  rcases z with z | ⟨j, z⟩
  · exact .inl (.inl z)
  · rcases putA_inv z with z | z | z
    · exact .inr (.inl z)
    · exact .inr (.inr z)
    · exact .inl (.inr ⟨j, z⟩)
/-- what an owned slot holds is changed, at one of its addresses -/
theorem Ok.updAt (ok : Ok K O H0 A H σ ρ) {i m : Nat} {a b : Addr} {ob : HO} {d : PyData} (hm : m = i ∨ ∃ k, m = vt i k) (hA : A m = some b) (hA0 : A i = some a) (hv : σ[i]? = some (some (.ref a))) (ho : OO ob) (h : Own K (L2.upd H b ob) (Ow O A) A i a d) :
    Ok K O H0 A (L2.upd H b ob) σ (ρ.set i (some (true, d))) := by
  have k : ∀ c o, H c = some o → ¬ Ow O A c → (L2.upd H b ob) c = some o := fun c o e n => by
    rw [upd_ne (fun z => n (.inr ⟨m, by rw [z]; exact hA⟩))]; exact e
  refine ⟨by rw [List.length_set, ok.len], by rw [List.length_set]; exact ok.sm, fun c o e => ?_, ok.inj, ok.new, fun j c e => ?_, ok.odom, fun j r e => ?_⟩
  · rw [upd_ne (fun z => ?_)]
    · exact ok.grow c o e
    · subst z
      rw [ok.new m c hA] at e; cases e
  · by_cases hb : c = b
    · exact ⟨ob, by rw [hb]; exact upd_same, ho⟩
    · obtain ⟨o, q, w⟩ := ok.dom j c e
      exact ⟨o, by rw [upd_ne hb]; exact q, w⟩
  · by_cases hj : i = j
    · subst hj
      by_cases hl : i < ρ.length
      · rw [List.getElem?_set_self hl] at e
        cases e
        exact ⟨.ref a, hv, a, hA0, rfl, h⟩
      · rw [List.getElem?_eq_none (by simpa using hl)] at e; cases e
    · rw [List.getElem?_set_ne hj] at e
      have hl : j < ρ.length := by
        obtain ⟨z, -⟩ := List.getElem?_eq_some_iff.mp e
        exact z
      have hj1 : j < 1000 := Nat.lt_of_lt_of_le hl ok.sm
      obtain ⟨v', e1, h'⟩ := ok.val j r e
      refine ⟨v', e1, RpS.keep k (fun _ z => .inl z) (fun n c hn e => ⟨e, fun o q => ?_⟩) h'⟩
      rw [upd_ne (fun z => ?_)]
      · exact q
      · subst z
        have e9 := ok.inj n m c e hA
        subst e9
        by_cases hi : i < 1000
        · have e8 : n % 1000 = i := by
            rcases hm with rfl | ⟨k, rfl⟩
            · omega
            · exact vt_mod hi
          have e7 : n % 1000 = j := by
            rcases hn with rfl | ⟨k, rfl⟩
            · omega
            · exact vt_mod hj1
          exact hj (e8.symm.trans e7)
        · have : i < σ.length := by
            obtain ⟨z, -⟩ := List.getElem?_eq_some_iff.mp hv
            exact z
          have := ok.len
          have := ok.sm
          omega
/-- an owned list of a slot is changed -/
theorem Ok.upd (ok : Ok K O H0 A H σ ρ) {i : Nat} {a : Addr} {ys : List V} {es : List PyData} (hA : A i = some a) (hv : σ[i]? = some (some (.ref a))) (h : RpA K H (Ow O A) ys es) :
    Ok K O H0 A (L2.upd H a (.lst ys)) σ (ρ.set i (some (true, .list es))) :=
  ok.updAt (.inl rfl) hA hA hv (.l ys) ⟨ys, upd_same, RpA.keep (fun b o e n => by rw [upd_ne (fun z => n (.inr ⟨i, by rw [z]; exact hA⟩))]; exact e) (fun _ z => .inl z) _ _ h⟩
/-- what a slot owns is given up -/
def dropA (A : Nat → Option Addr) (i : Nat) : Nat → Option Addr := fun j => if j % 1000 = i ∧ i < 1000 then none else A j
theorem dropA_inv {A : Nat → Option Addr} {i j : Nat} {b : Addr} (h : dropA A i j = some b) : A j = some b ∧ ¬ (j % 1000 = i ∧ i < 1000) := by
  unfold dropA at h
  split at h
  · cases h
  · rename_i n; exact ⟨h, n⟩
/-- the slot's own value, when all that it owned is nobody's -/
theorem Ok.give (ok : Ok K O H0 A H σ ρ) {i : Nat} {q : Option R} (hq : ∀ r, q = some r → i < ρ.length → ∃ v, σ[i]? = some (some v) ∧ RpS K H (Ow O (dropA A i)) (dropA A i) i v r) :
    Ok K O H0 (dropA A i) H σ (ρ.set i q) := by
  have sub : ∀ x, Ow O (dropA A i) x → Ow O A x := by
    intro x z
    rcases z with z | ⟨j, z⟩
    · exact .inl z
    · exact .inr ⟨j, (dropA_inv z).1⟩
  refine ⟨by rw [List.length_set, ok.len], by rw [List.length_set]; exact ok.sm, ok.grow, fun j k b e1 e2 => ok.inj j k b (dropA_inv e1).1 (dropA_inv e2).1, fun j b e => ok.new j b (dropA_inv e).1, fun j b e => ok.dom j b (dropA_inv e).1, ok.odom, fun j r e => ?_⟩
  by_cases hj : i = j
  · subst hj
    by_cases hl : i < ρ.length
    · rw [List.getElem?_set_self hl] at e
      exact hq r (Option.some.inj e) hl
    · rw [List.getElem?_eq_none (by simpa using hl)] at e; cases e
  · rw [List.getElem?_set_ne hj] at e
    have hl : j < ρ.length := by
      obtain ⟨z, -⟩ := List.getElem?_eq_some_iff.mp e
      exact z
    have hj1 : j < 1000 := Nat.lt_of_lt_of_le hl ok.sm
    obtain ⟨v', e1, h'⟩ := ok.val j r e
    refine ⟨v', e1, RpS.keep (fun _ _ e _ => e) (fun x z => .inl (sub x z)) (fun m b hm e => ⟨?_, fun _ q => q⟩) h'⟩
    unfold dropA
    rw [if_neg ?_]
    · exact e
    · have : m % 1000 = j := by
        rcases hm with rfl | ⟨k, rfl⟩
        · omega
        · exact vt_mod hj1
      rintro ⟨z, z2⟩
      exact hj (z.symm.trans this)
/-- an owned list becomes shared -/
theorem Ok.share (ok : Ok K O H0 A H σ ρ) {i : Nat} {ds : List PyData} (he : ρ[i]? = some (some (true, .list ds))) :
    Ok K O H0 (dropA A i) H σ (ρ.set i (some (false, .list ds))) := by
  refine ok.give fun r e hl => ?_
  cases e
  obtain ⟨v, e1, a, q1, q2, xs, q4, h⟩ := ok.val i _ he
  have hi : i < 1000 := Nat.lt_of_lt_of_le hl ok.sm
  subst q2
  refine ⟨_, e1, .lst (.inl q4) (fun z => ?_) (h.less fun x z => ?_)⟩
  · rcases z with z | ⟨j, z⟩
    · obtain ⟨ys, q, -⟩ := ok.odom a z
      rw [ok.new i a q1] at q; cases q
    · obtain ⟨z1, z2⟩ := dropA_inv z
      exact z2 ⟨by rw [ok.inj j i a z1 q1]; omega, hi⟩
  · rcases z with z | ⟨j, z⟩
    · exact .inl z
    · exact .inr ⟨j, (dropA_inv z).1⟩
/-- own lists of a list become shared -/
theorem Ok.shareD (ok : Ok K O H0 A H σ ρ) {i : Nat} {rows : List PyData} (he : ρ[i]? = some (some (true, .tuple rows))) :
    Ok K O H0 (dropA A i) H σ (ρ.set i (some (false, .list rows))) := by
  refine ok.give fun r e hl => ?_
  cases e
  have hi : i < 1000 := Nat.lt_of_lt_of_le hl ok.sm
  obtain ⟨v, e1, a, q1, q2, bs, q4, q5, h⟩ := ok.val i _ he
  subst q2
  have less : ∀ x, Ow O (dropA A i) x → Ow O A x := fun x z => by
    rcases z with z | ⟨j, z⟩
    · exact .inl z
    · exact .inr ⟨j, (dropA_inv z).1⟩
  have free : ∀ m b, A m = some b → (m = i ∨ ∃ k, m = vt i k) → ¬ Ow O (dropA A i) b := fun m b hb hm z => by
    rcases z with z | ⟨j, z⟩
    · obtain ⟨ys, q, -⟩ := ok.odom b z
      rw [ok.new m b hb] at q; cases q
    · obtain ⟨z1, z2⟩ := dropA_inv z
      have e9 := ok.inj j m b z1 hb
      subst e9
      rcases hm with rfl | ⟨k, rfl⟩
      · exact z2 ⟨by omega, hi⟩
      · exact z2 ⟨vt_mod hi, hi⟩
  refine ⟨_, e1, .lst (.inl q4) (free i a q1 (.inl rfl)) (RpA.each (by rw [List.length_map, q5]) fun k v d hv hd => ?_)⟩
  rw [List.getElem?_map] at hv
  obtain ⟨b, hb, rfl⟩ := Option.map_eq_some_iff.mp hv
  obtain ⟨z1, xs, ds, rfl, z3, z4⟩ := h k b d hb hd
  exact .lst (.inl z3) (free _ b z1 (.inr ⟨k, rfl⟩)) (z4.less less)
end
end PV

set_option Elab.async false
set_option linter.all false
set_option maxRecDepth 100000
set_option maxHeartbeats 4000000
/-! PV3: operators, comparisons, subscripts, calls of built-ins over plain values. -/
namespace PV
open PySem PySem.Spec PyProof.Rows L2

section
variable {X : Cx}

/-- lists that are read -/
theorem lstR {pins : List (Addr × Obj)} {σ : L2.St} {H : Hp} {s : Shared} {l : Addr} {xs : List V} (I : Inv X pins σ H s) (hH : Rd H l (.lst xs)) :
    xs.length ≤ sizeLine ∧ ∃ (its : List Value) (n : Nat), Vals xs its ∧ xs.length = its.length ∧ s.heap.get? l = some { cls := .type "list", data := .seq its.toArray n } := by
  obtain ⟨z, its, n, r, e⟩ := hH.ok I.hok
  exact ⟨z, its, n, r, r.length, e⟩
theorem same_upd {H : Hp} {p : Addr} {o : HO} (h : H p = none) : Same H (upd H p o) := fun b x e => by
  rw [upd_ne (ne_of_none e h)]
  exact e
theorem LINE_eq : LINE = sizeLine := by rw [sizeLine_eq]; rfl
theorem lenOk_le {n : Nat} (h : lenOk n = true) : n ≤ sizeLine := by rw [← LINE_eq]; exact Nat.le_of_ble_eq_true h
theorem op_catS : OpR X (binaryOp .Add) (fun x y H Q => ∃ l b xs zs, x = .ref l ∧ y = .ref b ∧ Rd H l (.lst xs) ∧ Rd H b (.lst zs) ∧ xs.length + zs.length ≤ sizeLine ∧ ∀ p, H p = none → Q (.ref p) (upd H p (.lst (xs ++ zs)))) := by
  intro pins s σ H x y v u Q I rx ry h
  obtain ⟨l, b, xs, zs, rfl, rfl, hH, hB, hz, q⟩ := h
  cases rx
  cases ry
  obtain ⟨z, its, n, r, hl, e⟩ := lstR I hH
  obtain ⟨z2, its2, n2, r2, hl2, e2⟩ := lstR I hB
  refine PySem.P.add_list e e2 ?_ (by rw [List.size_toArray, List.size_toArray]; omega)
  have ea : its.toArray ++ its2.toArray = (its ++ its2).toArray := by simp
  rw [ea]
  exact ⟨.ref _, _, I.lnew (t' := s.toks) (r.append r2) (by rw [List.length_append]; omega), rfl, q _ I.fresh⟩
theorem op_repS : OpR X (binaryOp .Mult) (fun x y H Q => ∃ l k xs, x = .ref l ∧ y = .int k ∧ Rd H l (.lst xs) ∧ -(2 ^ 63) ≤ k ∧ k < 2 ^ 63 ∧ xs.length * k.toNat ≤ sizeLine ∧
  ∀ p, H p = none → Q (.ref p) (upd H p (.lst (List.replicate k.toNat xs).flatten))) := by
  intro pins s σ H x y v u Q I rx ry h
  obtain ⟨l, k, xs, rfl, rfl, hH, h1, h2, hz, q⟩ := h
  cases rx
  obtain ⟨t, rfl⟩ := ry
  obtain ⟨z, its, n, r, hl, e⟩ := lstR I hH
  have hlen : its.toArray.size * k.toNat ≤ sizeLine := by rw [List.size_toArray, ← hl]; exact hz
  have hcap : ¬ its.toArray.size * k.toNat > (2 ^ 63 - 1) / 8 := by
    have : (sizeLine : Nat) ≤ (2 ^ 63 - 1) / 8 := by decide
    omega
  have hfit : ¬ (!Builtin.List.listFitsIndex k) = true := by
    rw [fitsIndex_both h1 h2]
    exact Bool.false_ne_true
  have hlong : ¬ Builtin.List.listTooLong (its.toArray.size * k.toNat) = true := by
    rw [notLongL hlen]
    exact Bool.false_ne_true
  have hnew : List.foldl (fun x1 x2 => x1 ++ x2) #[] (List.replicate (if its.toArray.isEmpty = true then 0 else k.toNat) its.toArray) = (List.replicate k.toNat its).flatten.toArray := by
    have f0 : ∀ m : Nat, List.foldl (fun x1 x2 => x1 ++ x2) #[] (List.replicate m its.toArray) = (List.replicate m its).flatten.toArray := fun m => by
      have := foldl_rep its m []
      rw [List.nil_append] at this
      exact this
    rw [f0]
    cases its with
    | nil => simp
    | cons a r' => rw [if_neg (by simp)]
  refine wpAny_binaryOp_repeat_ref (T := "list") (U := "int") (by decide) ⟨_, e, rfl⟩ (fun s' => typeIs_int s' k t) noFill_list_mul F.fills_int_mul F.slot_int_rmul repeat_list F.slot_int_index.lookup
    (call_meets F.slot_int_rmul (typeIs_int s k t) F.entry_int_rmul (F.args_int_rmul_2 _ _) (int___rmul___int_list k t l its.toArray n)
      ⟨e, rfl, ⟨_, e, rfl⟩, call_meets F.slot_list_mul ⟨_, e, rfl⟩ F.entry_list_mul (F.args_list_mul_2 _ _) (AutoListH.list___mul___list_int_3 l its.toArray n k t hfit hcap hlong) ⟨e, ?_⟩⟩)
  rw [hnew]
  exact ⟨.ref _, _, I.lnew (t' := s.toks) (r.rep k.toNat) (by rw [PyProof.Rows.lm_len_rep_flat, Nat.mul_comm]; exact hz), rfl, q _ I.fresh⟩
theorem ext_tup (l : Addr) (us : Array Value) (n : Nat) (b : Addr) (zs : Array Value) (n2 : Nat) (kd : Option Addr) (ks : Array (Option Value)) (c0 : ¬(!us.isEmpty && Builtin.List.listTooLong (us.size + zs.size)) = true) (c1 : us.size ≤ sizeLine) (c2 : us.size + zs.size ≤ sizeLine + 1) :
    Meets (Builtin.«list.extend» ⟨[.ref l, .ref b], []⟩) (fun _ R s => s.heap.get? l = some { cls := .type "list", dict := none, data := .seq us n, slots := #[] } ∧ s.heap.get? b = some { cls := .type "tuple", dict := kd, data := .seq zs n2, slots := ks } ∧
      R (.ok (.ret Value.none)) { s with heap := s.heap.update l (Obj.mapSeq fun x => x ++ zs), toks := s.toks }) :=
  .of_wp fun prog w A R s h => by
    obtain ⟨hp, g, d, tk, os⟩ := s
    obtain ⟨hl, hb, h⟩ := h
    have f1 := AutoSeq1.idx_int; have f2 := AutoSeq1.sub_tuple_tuple; have f3 := AutoSeq1.sub_list_list; have f4 := AutoSeq1.sub_tuple_list; have f5 := AutoSeq1.sub_list_tuple
    have z0 : (us ++ zs).size ≤ sizeLine + 1 := by rw [Array.size_append]; exact c2
    wp_walk using (wpAny_updateSeq hl rfl (hz := c1) (_hz' := z0)), wpAny_loadPart' hl, wpAny_loadPart' hb
    exact ⟨_, rfl, h⟩
theorem mt_extendS : MtM X "list.extend" (fun x vs H Q => ∃ l b xs zs, x = .ref l ∧ vs = [.ref b] ∧ H l = some (.lst xs) ∧ (Rd H b (.lst zs) ∨ SqT X.K H b zs) ∧ xs.length + zs.length ≤ sizeLine ∧ Q .non (upd H l (.lst (xs ++ zs)))) := by
  intro pins s σ H x vs v us Q I rx rv h
  obtain ⟨l, b, xs, zs, rfl, rfl, hH, hB, hz, q⟩ := h
  cases rx
  obtain ⟨u, rfl, ru⟩ := rv.one
  cases ru
  obtain ⟨z, its, n, r, hl, e⟩ := I.lstM hH
  rcases hB with hB | hB
  · obtain ⟨z2, its2, n2, r2, hl2, e2⟩ := lstR I hB
    have hsz : its.toArray.size + its2.toArray.size ≤ sizeLine := by rw [List.size_toArray, List.size_toArray]; omega
    have hlong : ¬ (!its.toArray.isEmpty && Builtin.List.listTooLong (its.toArray.size + its2.toArray.size)) = true := by rw [notLongL hsz, Bool.and_false]; exact Bool.false_ne_true
    refine call_meets F.slot_list_extend ⟨_, e, rfl⟩ F.entry_list_extend (F.args_list_extend_2 _ _)
      (AutoSeq1.list_extend_list_list_0 l its.toArray n b its2.toArray n2 hlong (by rw [List.size_toArray]; omega) (by omega)) ⟨e, e2, ?_⟩
    refine ⟨.non, _, I.lset (its' := its ++ its2) hH e (by simp) (r.append r2) ?_, rfl, q⟩
    rw [List.length_append]
    omega
  · obtain ⟨its2, r2, pl, hz2⟩ := I.tuple hB
    have hl2 := r2.length
    have hsz : its.toArray.size + its2.toArray.size ≤ sizeLine := by rw [List.size_toArray, List.size_toArray]; omega
    have hlong : ¬ (!its.toArray.isEmpty && Builtin.List.listTooLong (its.toArray.size + its2.toArray.size)) = true := by rw [notLongL hsz, Bool.and_false]; exact Bool.false_ne_true
    obtain ⟨ob, ho, hcl, n2, hd2⟩ := pl
    obtain ⟨kc, kd, kx, ks⟩ := ob
    simp only at hcl hd2
    subst hcl; subst hd2
    refine call_meets F.slot_list_extend ⟨_, e, rfl⟩ F.entry_list_extend (F.args_list_extend_2 _ _) (ext_tup l its.toArray n b its2.toArray n2 kd ks hlong (by rw [List.size_toArray]; omega) (by omega)) ⟨e, ho, ?_⟩
    refine ⟨.non, _, I.lset (its' := its ++ its2) hH e (by simp) (r.append r2) ?_, rfl, q⟩
    rw [List.length_append]
    omega

/-! ### + - * // % ** << >> & | -/
def opOf : BOp → Operator
  | .add => .Add | .sub => .Sub | .mul => .Mult | .fdiv => .FloorDiv | .mod => .Mod | .pow => .Pow | .shl => .LShift | .shr => .RShift | .band => .BitAnd | .bor => .BitOr
/-- a value that comes of two -/
abbrev Gives (K : PySem.W.Frag) (H : Hp) (P : Addr → Prop) (r : R) (Q : VK) : Prop := ∀ v H', Same H H' → RpR K H H' P false v r → Q v H'
theorem Gives.sh {K : PySem.W.Frag} {H : Hp} {P : Addr → Prop} {d : PyData} {Q : VK} {v : V} (h : Gives K H P (false, d) Q) (r : Rp K H P v d) : Q v H := h v H (Same.refl H) r
theorem Gives.new {K : PySem.W.Frag} {H : Hp} {P : Addr → Prop} {ds : List PyData} {xs : List V} {Q : VK} (hP : ∀ a, P a → H a ≠ none) (h : Gives K H P (true, .list ds) Q) (r : RpA K H P xs ds) (p : Addr) (hp : H p = none) : Q (.ref p) (upd H p (.lst xs)) :=
  h _ _ (same_upd hp) ⟨p, xs, ds, rfl, rfl, upd_same, hp, RpA.keep (fun a o e _ => same_upd hp a o e) (fun a z => z.elim .inl fun e => .inr (by rw [e]; exact hp)) _ _ r⟩
def rBin (K : PySem.W.Frag) (o : BOp) : R2 := fun x y H Q => ∃ (P : Addr → Prop) (d e : PyData) (r : R), (∀ a, P a → H a ≠ none) ∧ RpB K H P x d ∧ RpB K H P y e ∧ evBin o d e = some r ∧ Gives K H P r Q
theorem mulOk_of {i j : Int} (h : mulOk i j = true) : CMulW i j := Nat.le_of_ble_eq_true h
/-- // by a divisor below 2 ^ 9000, of any sign -/
def CDivF (_ j : Int) : Prop := j ≠ 0 ∧ j.natAbs.log2 < 9000
theorem op_fdivF : OpR X (binaryOp .FloorDiv) (rI CDivF fun i j => .int (i.fdiv j)) := opI fun i j _ _ _ _ _ c q => floordiv_int c.1 q (.inl (PyProof.noPylong_of_log2 c.2))
theorem divOk_of {i j : Int} (h : divOk j = true) : CDivF i j := by
  unfold divOk at h
  rw [Bool.and_eq_true] at h
  exact ⟨of_decide_eq_true h.1, Nat.le_of_ble_eq_true h.2⟩
theorem powOk_of {i j : Int} (h : powOk i j = true) : CPow i j := by
  unfold powOk at h
  rw [Bool.and_eq_true, Bool.and_eq_true] at h
  exact ⟨of_decide_eq_true h.1.1, of_decide_eq_true h.1.2, Nat.le_of_ble_eq_true h.2⟩
theorem op_bin (o : BOp) : OpR X (binaryOp (opOf o)) (rBin X.K o) := by
  intro pins s σ H x y v u Q I rx ry ⟨P, d, e, r, hP, hd, he, ev, q⟩
  cases d <;> cases e <;> try (cases o <;> cases ev)
  case int.int i j =>
    have := hd.int
    have := he.int
    subst x y
    cases o
    case add => cases ev; exact op_add pins s σ H _ _ v u Q I rx ry ⟨i, j, rfl, rfl, q.sh (.int _)⟩
    case sub => cases ev; exact op_sub pins s σ H _ _ v u Q I rx ry ⟨i, j, rfl, rfl, q.sh (.int _)⟩
    case mul =>
      simp only [evBin] at ev
      split at ev
      · rename_i hc; cases ev; exact op_mulW pins s σ H _ _ v u Q I rx ry ⟨i, j, rfl, rfl, mulOk_of hc, q.sh (.int _)⟩
      · cases ev
    case fdiv =>
      simp only [evBin] at ev
      split at ev
      · rename_i hc; cases ev; exact op_fdivF pins s σ H _ _ v u Q I rx ry ⟨i, j, rfl, rfl, divOk_of hc, q.sh (.int _)⟩
      · cases ev
    case mod =>
      simp only [evBin] at ev
      split at ev
      · rename_i hc; cases ev; exact op_mod pins s σ H _ _ v u Q I rx ry ⟨i, j, rfl, rfl, of_decide_eq_true hc, q.sh (.int _)⟩
      · cases ev
    case pow =>
      simp only [evBin] at ev
      split at ev
      · rename_i hc; cases ev; exact op_pow pins s σ H _ _ v u Q I rx ry ⟨i, j, rfl, rfl, powOk_of hc, q.sh (.int _)⟩
      · cases ev
    case shl =>
      simp only [evBin] at ev
      split at ev
      · rename_i hc; cases ev; exact op_shl pins s σ H _ _ v u Q I rx ry ⟨i, j, rfl, rfl, powOk_of hc, q.sh (.int _)⟩
      · cases ev
    case shr =>
      simp only [evBin] at ev
      split at ev
      · rename_i hc; cases ev; exact op_shr pins s σ H _ _ v u Q I rx ry ⟨i, j, rfl, rfl, of_decide_eq_true hc, q.sh (.int _)⟩
      · cases ev
    case band => cases ev; exact op_and pins s σ H _ _ v u Q I rx ry ⟨i, j, rfl, rfl, q.sh (.int _)⟩
    case bor => cases ev; exact op_or pins s σ H _ _ v u Q I rx ry ⟨i, j, rfl, rfl, q.sh (.int _)⟩
  case list.list as bs =>
    cases o
    case add =>
      simp only [evBin] at ev
      split at ev
      · rename_i hc
        cases ev
        obtain ⟨a, xs, rfl, h1, ha⟩ := hd.list
        obtain ⟨b, ys, rfl, h2, hb⟩ := he.list
        refine op_catS pins s σ H _ _ v u Q I rx ry ⟨a, b, xs, ys, rfl, rfl, h1, h2, ?_, fun p hp => q.new hP (ha.append hb) p hp⟩
        rw [ha.length, hb.length]
        exact lenOk_le hc
      · cases ev
    all_goals cases ev
  case list.int as k =>
    cases o
    case mul =>
      simp only [evBin] at ev
      split at ev
      · rename_i hc
        cases ev
        rw [Bool.and_eq_true, Bool.and_eq_true] at hc
        obtain ⟨⟨c1, c2⟩, c3⟩ := hc
        have c1 := of_decide_eq_true c1
        have c2 := of_decide_eq_true c2
        obtain ⟨a, xs, rfl, h1, ha⟩ := hd.list
        have := he.int
        subst y
        refine op_repS pins s σ H _ _ v u Q I rx ry ⟨a, k, xs, rfl, rfl, h1, by omega, by omega, ?_, fun p hp => q.new hP (ha.rep _) p hp⟩
        rw [ha.length]
        exact lenOk_le c3
      · cases ev
    all_goals cases ev
def rNeg (K : PySem.W.Frag) : V → Hp → VK → Prop := fun x H Q => ∃ (P : Addr → Prop) (d : PyData) (r : R), RpB K H P x d ∧ evNeg d = some r ∧ Gives K H P r Q
theorem op_neg : UnR X (unaryOp .USub) (rNeg X.K) := by
  intro pins s σ H x v Q I rx ⟨P, d, r, hd, ev, q⟩
  cases d <;> cases ev
  have := hd.int
  subst x
  exact un_neg pins s σ H _ v Q I rx ⟨_, rfl, q.sh (.int _)⟩

/-! ### comparisons -/
def copOf : COp → CmpOp
  | .eq => .Eq | .ne => .NotEq | .lt => .Lt | .le => .LtE | .gt => .Gt | .ge => .GtE | .isn => .Is | .notn => .IsNot | .inn => .In | .notin => .NotIn
def rCmp (K : PySem.W.Frag) (o : COp) : R2 := fun x y H Q => ∃ (P : Addr → Prop) (d e : PyData) (k : Bool), RpB K H P x d ∧ RpB K H P y e ∧ evCmp o d e = some k ∧ Q (.bl k) H
theorem dok_plain {d : PyData} (h : dok d = true) : d.plain = true ∧ d.depth ≤ 50 := by
  unfold dok at h
  rw [Bool.and_eq_true] at h
  exact ⟨h.2, Nat.le_of_ble_eq_true h.1⟩
theorem op_eqP (hu : X.A.units + 64 < cLine) {neg : Bool} : OpR X (compareOp (if neg then .NotEq else .Eq)) (fun x y H Q => ∃ d e, Dp X.K H x d ∧ Dp X.K H y e ∧ dok d = true ∧ dok e = true ∧ Q (.bl (if neg then !PyData.eqv d e else PyData.eqv d e)) H) := by
  intro pins s σ H x y v u Q I rx ry ⟨d, e, hd, he, od, oe, q⟩
  obtain ⟨as, r1⟩ := Dp.reads I d x v hd rx
  obtain ⟨bs, r2⟩ := Dp.reads I e y u he ry
  obtain ⟨p1, n1⟩ := dok_plain od
  obtain ⟨p2, n2⟩ := dok_plain oe
  have hm : min d.depth e.depth ≤ 50 := Nat.le_trans (Nat.min_le_left _ _) n1
  cases neg with
  | false => exact SeqAt.eq_plain r1 r2 p1 p2 (by omega) ⟨.bl _, H, I, rfl, q⟩
  | true => exact SeqAt.ne_plain r1 r2 p1 p2 (by omega) ⟨.bl _, H, I, rfl, q⟩
theorem depth_items {ds : List PyData} : PyData.depthAll ds ≤ (PyData.list ds).depth := by
  simp only [PyData.depth]; omega
theorem depth_itemsT {ds : List PyData} : PyData.depthAll ds ≤ (PyData.tuple ds).depth := by
  simp only [PyData.depth]; omega
theorem op_inP (hu : X.A.units + 64 < cLine) {neg : Bool} : OpR X (compareOp (if neg then .NotIn else .In)) (fun x y H Q => ∃ d ds, Dp X.K H x d ∧ (Dp X.K H y (.list ds) ∧ dok (.list ds) = true ∨ Dp X.K H y (.tuple ds) ∧ dok (.tuple ds) = true) ∧ dok d = true ∧
    Q (.bl (if neg then !ds.any (fun z => PyData.eqv z d) else ds.any (fun z => PyData.eqv z d))) H) := by
  intro pins s σ H x y v u Q I rx ry ⟨d, ds, hd, he, od, q⟩
  obtain ⟨as, r1⟩ := Dp.reads I d x v hd rx
  obtain ⟨p1, n1⟩ := dok_plain od
  rcases he with ⟨he, oe⟩ | ⟨he, oe⟩
  · obtain ⟨bs, r2⟩ := Dp.reads I (.list ds) y u he ry
    obtain ⟨p2, n2⟩ := dok_plain oe
    have hm : min (PyData.depthAll ds) d.depth ≤ 50 := Nat.le_trans (Nat.min_le_right _ _) n1
    have p3 : PyData.plainAll ds = true := by simpa [PyData.plain] using p2
    cases neg with
    | false => exact SeqAt.in_list_data r2 r1 p3 p1 (by omega) ⟨.bl _, H, I, rfl, q⟩
    | true => exact SeqAt.notIn_list_data r2 r1 p3 p1 (by omega) ⟨.bl _, H, I, rfl, q⟩
  · obtain ⟨bs, r2⟩ := Dp.reads I (.tuple ds) y u he ry
    obtain ⟨p2, n2⟩ := dok_plain oe
    have hm : min (PyData.depthAll ds) d.depth ≤ 50 := Nat.le_trans (Nat.min_le_right _ _) n1
    have p3 : PyData.plainAll ds = true := by simpa [PyData.plain] using p2
    cases neg with
    | false => exact SeqAt.in_tuple_data r2 r1 p3 p1 (by omega) ⟨.bl _, H, I, rfl, q⟩
    | true => exact SeqAt.notIn_tuple_data r2 r1 p3 p1 (by omega) ⟨.bl _, H, I, rfl, q⟩
theorem op_cmp (hu : X.A.units + 64 < cLine) (o : COp) : OpR X (compareOp (copOf o)) (rCmp X.K o) := by
  intro pins s σ H x y v u Q I rx ry ⟨P, d, e, k, hd, he, ev, q⟩
  have hin : ∀ neg : Bool, (copOf o = if neg then .NotIn else .In) → (∃ ds, (e = .list ds ∨ e = .tuple ds) ∧ dok d = true ∧ dok e = true ∧ k = if neg then !ds.any (fun z => PyData.eqv z d) else ds.any (fun z => PyData.eqv z d)) → wpAny (model X.prog X.w) X.A (compareOp (copOf o) v u) (EP X pins σ Q) X.xe s := by
    intro neg eo ⟨ds, eds, od, oe, ek⟩
    rw [eo]
    refine op_inP hu (neg := neg) pins s σ H x y v u Q I rx ry ⟨d, ds, hd.dp, ?_, od, by subst ek; exact q⟩
    rcases eds with e1 | e1
    · subst e1; exact .inl ⟨he.dp, oe⟩
    · subst e1; exact .inr ⟨he.dp, oe⟩
  have heq : ∀ neg : Bool, (copOf o = if neg then .NotEq else .Eq) → dok d = true → dok e = true → (k = if neg then !PyData.eqv d e else PyData.eqv d e) → wpAny (model X.prog X.w) X.A (compareOp (copOf o) v u) (EP X pins σ Q) X.xe s := by
    intro neg eo od oe ek
    rw [eo]
    exact op_eqP hu (neg := neg) pins s σ H x y v u Q I rx ry ⟨d, e, hd.dp, he.dp, od, oe, by subst ek; exact q⟩
  unfold evCmp at ev
  split at ev
  · cases ev; have h1 := hd.int; have h2 := he.int; subst x y
    refine L2.op_eq pins s σ H _ _ v u Q I rx ry ⟨rfl, ?_⟩
    rename_i i j
    rw [show decide (V.int i = V.int j) = decide (i = j) from by simp]
    exact q
  · cases ev; have h1 := hd.int; have h2 := he.int; subst x y
    refine L2.op_ne pins s σ H _ _ v u Q I rx ry ⟨rfl, ?_⟩
    rename_i i j
    rw [show decide (V.int i = V.int j) = decide (i = j) from by simp]
    exact q
  · cases ev; have h1 := hd.int; have h2 := he.int; subst x y
    exact op_lt pins s σ H _ _ v u Q I rx ry ⟨_, _, rfl, rfl, q⟩
  · cases ev; have h1 := hd.int; have h2 := he.int; subst x y
    exact op_le pins s σ H _ _ v u Q I rx ry ⟨_, _, rfl, rfl, q⟩
  · cases ev; have h1 := hd.int; have h2 := he.int; subst x y
    exact op_gt pins s σ H _ _ v u Q I rx ry ⟨_, _, rfl, rfl, q⟩
  · cases ev; have h1 := hd.int; have h2 := he.int; subst x y
    exact op_ge pins s σ H _ _ v u Q I rx ry ⟨_, _, rfl, rfl, q⟩
  · cases ev
    exact op_isN pins s σ H _ _ v u Q I rx ry ⟨he.none, by rw [hd.notnone]; exact q⟩
  · cases ev
    exact op_notN pins s σ H _ _ v u Q I rx ry ⟨he.none, by rw [hd.notnone]; exact q⟩
  · cases ev; have h1 := hd.bool; have h2 := he.bool; subst x y; cases rx; cases ry
    exact PyProof.Rows.is_bool ⟨.bl _, H, I, rfl, q⟩
  · cases ev; have h1 := hd.bool; have h2 := he.bool; subst x y; cases rx; cases ry
    exact PyProof.Rows.isnot_bool ⟨.bl _, H, I, rfl, q⟩
  · cases ev; have h1 := hd.none; have h2 := he.bool; subst x y; cases rx; cases ry
    exact wpAny_pure (a := Value.bool false) ⟨.bl _, H, I, rfl, q⟩
  · cases ev; have h1 := hd.none; have h2 := he.bool; subst x y; cases rx; cases ry
    exact wpAny_pure (a := Value.bool true) ⟨.bl _, H, I, rfl, q⟩
  · split at ev
    · rename_i hc; cases ev; rw [Bool.and_eq_true] at hc; exact heq false rfl hc.1 hc.2 rfl
    · cases ev
  · split at ev
    · rename_i hc; cases ev; rw [Bool.and_eq_true] at hc; exact heq true rfl hc.1 hc.2 rfl
    · cases ev
  · split at ev
    · rename_i hc; cases ev; rw [Bool.and_eq_true] at hc; exact hin false rfl ⟨_, .inl rfl, hc.1, hc.2, rfl⟩
    · cases ev
  · split at ev
    · rename_i hc; cases ev; rw [Bool.and_eq_true] at hc; exact hin true rfl ⟨_, .inl rfl, hc.1, hc.2, rfl⟩
    · cases ev
  · split at ev
    · rename_i hc; cases ev; rw [Bool.and_eq_true] at hc; exact hin false rfl ⟨_, .inr rfl, hc.1, hc.2, rfl⟩
    · cases ev
  · split at ev
    · rename_i hc; cases ev; rw [Bool.and_eq_true] at hc; exact hin true rfl ⟨_, .inr rfl, hc.1, hc.2, rfl⟩
    · cases ev
  · cases ev

/-! ### subscripts -/
theorem atI_rp {K : PySem.W.Frag} {H : Hp} {P : Addr → Prop} {xs : List V} {ds : List PyData} {i : Int} {d : PyData} (h : RpA K H P xs ds) (e : atI ds i = some d) : ∃ v, atI xs i = some v ∧ Rp K H P v d := by
  unfold atI at e ⊢
  rw [h.length]
  cases q : ixN ds.length i with
  | none => rw [q] at e; cases e
  | some j =>
    rw [q] at e
    exact h.get e
def rIxP (K : PySem.W.Frag) : R2 := fun x y H Q => ∃ (P : Addr → Prop) (d e : PyData) (r : R), RpB K H P x d ∧ RpB K H P y e ∧ evIx d e = some r ∧ Gives K H P r Q
theorem ix_P : IxR X (rIxP X.K) := by
  intro value slice pins s σ H x y v u Q I rx ry ⟨P, d, e, r, hd, he, ev, q⟩ hs
  unfold evIx at ev
  split at ev
  · obtain ⟨a, xs, rfl, h1, ha⟩ := hd.list
    have := he.int
    subst y
    rename_i ds i
    cases e1 : atI ds i with
    | none => rw [e1] at ev; cases ev
    | some d =>
      rw [e1] at ev
      cases ev
      obtain ⟨w, e2, hw⟩ := atI_rp ha e1
      exact ix_list value slice pins s σ H _ _ v u Q I rx ry ⟨a, xs, i, w, rfl, rfl, .inl h1, e2, q.sh hw⟩ hs
  · obtain ⟨a, xs, rfl, h1, ha⟩ := hd.tuple
    have := he.int
    subst y
    rename_i ds i
    cases e1 : atI ds i with
    | none => rw [e1] at ev; cases ev
    | some d =>
      rw [e1] at ev
      cases ev
      obtain ⟨w, e2, hw⟩ := atI_rp ha e1
      exact ix_tup value slice pins s σ H _ _ v u Q I rx ry ⟨a, xs, i, w, rfl, rfl, h1, e2, q.sh hw⟩ hs
  · cases ev
def rSlP (K : PySem.W.Frag) : V → Option Int → Option Int → Hp → VK → Prop := fun x lo hi H Q => ∃ (P : Addr → Prop) (d : PyData) (r : R), (∀ a, P a → H a ≠ none) ∧ RpB K H P x d ∧ evSl d lo hi = some r ∧ Gives K H P r Q
theorem sl_P : SlR X (rSlP X.K) := by
  intro pins s σ H x v vl vu lo hi sl Q I rx h1 h2 h3 ⟨P, d, r, hP, hd, ev, q⟩
  unfold evSl at ev
  split at ev
  · cases ev
    obtain ⟨a, xs, rfl, h1', ha⟩ := hd.list
    refine sl_list pins s σ H _ v vl vu lo hi sl Q I rx h1 h2 h3 ⟨a, xs, rfl, .inl h1', fun p hp => ?_⟩
    refine q.new hP ?_ p hp
    unfold cutV cutD
    rw [ha.length]
    exact (ha.drop _).take _
  · cases ev

end
end PV

set_option Elab.async false
set_option linter.all false
set_option maxRecDepth 100000
set_option maxHeartbeats 4000000
/-! PV4: calls of built-ins over plain values. -/
namespace PV
open PySem PySem.Spec PyProof.Rows L2

theorem Gives.newT {K : PySem.W.Frag} {H : Hp} {P : Addr → Prop} {ds : List PyData} {xs : List V} {Q : VK} (hP : ∀ a, P a → H a ≠ none) (h : Gives K H P (false, .tuple ds) Q) (r : RpA K H P xs ds) (p : Addr) (hp : H p = none) : Q (.ref p) (upd H p (.tup xs)) :=
  h _ _ (same_upd hp) (.tup (.inl ⟨upd_same, fun z => hP p z hp⟩) (r.same (same_upd hp)))
abbrev RpBs (K : PySem.W.Frag) (H : Hp) (P : Addr → Prop) : List V → List PyData → Prop := Paired (RpB K H P)
def rBI (K : PySem.W.Frag) (b : BI) : List V → Hp → VK → Prop := fun vs H Q => ∃ (P : Addr → Prop) (ds : List PyData) (r : R), (∀ a, P a → H a ≠ none) ∧ RpBs K H P vs ds ∧ evBI b ds = some r ∧ Gives K H P r Q
section
variable {K : PySem.W.Frag} {H : Hp} {P : Addr → Prop}
theorem one {vs : List V} {d : PyData} (h : RpBs K H P vs [d]) : ∃ v, vs = [v] ∧ RpB K H P v d := by
  cases h with
  | cons r t => cases t; exact ⟨_, rfl, r⟩
theorem two {vs : List V} {d e : PyData} (h : RpBs K H P vs [d, e]) : ∃ v u, vs = [v, u] ∧ RpB K H P v d ∧ RpB K H P u e := by
  cases h with
  | cons r t =>
    cases t with
    | cons r2 t => cases t; exact ⟨_, _, rfl, r, r2⟩
theorem minI_mem : ∀ (xs : List Int) (m : Int), (minI m xs = m ∨ minI m xs ∈ xs) ∧ minI m xs ≤ m ∧ ∀ y ∈ xs, minI m xs ≤ y
  | [], m => ⟨.inl rfl, Int.le_refl _, fun y h => absurd h (by simp)⟩
  | x :: xs, m => by
    obtain ⟨h1, h2, h3⟩ := minI_mem xs (if x < m then x else m)
    show (minI (if x < m then x else m) xs = m ∨ minI (if x < m then x else m) xs ∈ x :: xs) ∧ minI (if x < m then x else m) xs ≤ m ∧ ∀ y ∈ x :: xs, minI (if x < m then x else m) xs ≤ y
    generalize minI (if x < m then x else m) xs = k at h1 h2 h3
    refine ⟨?_, ?_, fun y hy => ?_⟩
    · rcases h1 with h1 | h1
      · by_cases q : x < m
        · rw [if_pos q] at h1; exact .inr (by rw [h1]; exact List.mem_cons_self)
        · rw [if_neg q] at h1; exact .inl h1
      · exact .inr (List.mem_cons_of_mem _ h1)
    · split at h2 <;> omega
    · rcases List.mem_cons.mp hy with rfl | hy
      · split at h2 <;> omega
      · exact h3 y hy
theorem maxI_mem : ∀ (xs : List Int) (m : Int), (maxI m xs = m ∨ maxI m xs ∈ xs) ∧ m ≤ maxI m xs ∧ ∀ y ∈ xs, y ≤ maxI m xs
  | [], m => ⟨.inl rfl, Int.le_refl _, fun y h => absurd h (by simp)⟩
  | x :: xs, m => by
    obtain ⟨h1, h2, h3⟩ := maxI_mem xs (if m < x then x else m)
    show (maxI (if m < x then x else m) xs = m ∨ maxI (if m < x then x else m) xs ∈ x :: xs) ∧ m ≤ maxI (if m < x then x else m) xs ∧ ∀ y ∈ x :: xs, y ≤ maxI (if m < x then x else m) xs
    generalize maxI (if m < x then x else m) xs = k at h1 h2 h3
    refine ⟨?_, ?_, fun y hy => ?_⟩
    · rcases h1 with h1 | h1
      · by_cases q : m < x
        · rw [if_pos q] at h1; exact .inr (by rw [h1]; exact List.mem_cons_self)
        · rw [if_neg q] at h1; exact .inl h1
      · exact .inr (List.mem_cons_of_mem _ h1)
    · split at h2 <;> omega
    · rcases List.mem_cons.mp hy with rfl | hy
      · split at h2 <;> omega
      · exact h3 y hy
theorem insI_perm (x : Int) : ∀ l, (insI x l).Perm (x :: l)
  | [] => .refl _
  | y :: ys => by
    unfold insI
    split
    · exact .refl _
    · exact (List.Perm.cons y (insI_perm x ys)).trans (.swap x y ys)
theorem sortI_perm : ∀ l, (sortI l).Perm l
  | [] => .refl _
  | x :: xs => (insI_perm x _).trans ((sortI_perm xs).cons x)
theorem insI_pw (x : Int) : ∀ l : List Int, l.Pairwise (· ≤ ·) → (insI x l).Pairwise (· ≤ ·)
  | [], _ => by simp [insI]
  | y :: ys, h => by
    rw [List.pairwise_cons] at h
    unfold insI
    split
    · rename_i hxy
      rw [List.pairwise_cons]
      refine ⟨fun z hz => ?_, List.pairwise_cons.mpr h⟩
      rcases List.mem_cons.mp hz with rfl | hz
      · exact hxy
      · exact Int.le_trans hxy (h.1 z hz)
    · rename_i hxy
      rw [List.pairwise_cons]
      refine ⟨fun z hz => ?_, insI_pw x ys h.2⟩
      rcases List.mem_cons.mp ((insI_perm x ys).mem_iff.mp hz) with rfl | hz
      · omega
      · exact h.1 z hz
theorem sortI_pw : ∀ l : List Int, (sortI l).Pairwise (· ≤ ·)
  | [] => .nil
  | x :: xs => insI_pw x _ (sortI_pw xs)
theorem rpA_list_ints {ds : List PyData} {ns : List Int} {xs : List V} (e : intsOf ds = some ns) (h : RpA K H P xs ds) : xs = ns.map V.int := by
  rw [intsOf_eq e] at h
  exact rpA_int_inv h
end
section
variable {X : Cx}
theorem call_lenP : CallR X (.builtin "len") (rBI X.K .len) := by
  intro pins s σ H xs us Q I r ⟨P, ds, rr, hP, hd, ev, q⟩
  unfold evBI at ev
  split at ev <;> first | (rename_i z1; cases z1) | skip
  · cases ev
    obtain ⟨v, rfl, h⟩ := one hd
    obtain ⟨a, ys, rfl, h1, ha⟩ := h.list
    exact call_len_seq pins s σ H _ us Q I r ⟨a, ys, rfl, .inl (.inl h1), by rw [ha.length]; exact q.sh (.int _)⟩
  · cases ev
    obtain ⟨v, rfl, h⟩ := one hd
    obtain ⟨a, ys, rfl, h1, ha⟩ := h.tuple
    exact call_len_seq pins s σ H _ us Q I r ⟨a, ys, rfl, .inr h1, by rw [ha.length]; exact q.sh (.int _)⟩
  · cases ev
theorem call_absP : CallR X (.builtin "abs") (rBI X.K .abs) := by
  intro pins s σ H xs us Q I r ⟨P, ds, rr, hP, hd, ev, q⟩
  unfold evBI at ev
  split at ev <;> first | (rename_i z1; cases z1) | skip
  · cases ev
    obtain ⟨v, rfl, h⟩ := one hd
    have := h.int
    subst this
    exact call_abs pins s σ H _ us Q I r ⟨_, rfl, q.sh (.int _)⟩
  · cases ev
theorem call_intP : CallR X (.type "int") (rBI X.K .int) := by
  intro pins s σ H xs us Q I r ⟨P, ds, rr, hP, hd, ev, q⟩
  unfold evBI at ev
  split at ev <;> first | (rename_i z1; cases z1) | skip
  · cases ev
    obtain ⟨v, rfl, h⟩ := one hd
    have := h.int
    subst this
    exact call_int1 pins s σ H _ us Q I r (.inl ⟨_, rfl, q.sh (.int _)⟩)
  · cases ev
    obtain ⟨v, rfl, h⟩ := one hd
    have := h.bool
    subst this
    exact call_int1 pins s σ H _ us Q I r (.inr ⟨_, rfl, q.sh (.int _)⟩)
  · cases ev
theorem call_minP (hc : X.calm = true) : CallR X (.builtin "min") (rBI X.K .min) := by
  intro pins s σ H xs us Q I r ⟨P, ds, rr, hP, hd, ev, q⟩
  unfold evBI at ev
  split at ev <;> first | (rename_i z1; cases z1) | skip
  · cases ev
    obtain ⟨v, u, rfl, h, h'⟩ := two hd
    have := h.int
    subst this
    have := h'.int
    subst this
    exact call_min2 hc pins s σ H _ us Q I r ⟨_, _, rfl, q.sh (.int _)⟩
  · obtain ⟨v, rfl, h⟩ := one hd
    obtain ⟨a, ys, rfl, h1, ha⟩ := h.list
    rename_i ds'
    cases e : intsOf ds' with
    | none => rw [e] at ev; cases ev
    | some l =>
      rw [e] at ev
      cases l with
      | nil => cases ev
      | cons x l =>
        cases ev
        have := rpA_list_ints e ha
        subst this
        obtain ⟨m1, m2, m3⟩ := minI_mem l x
        refine cr_min hc pins s σ H _ us Q I r ⟨a, x :: l, rfl, .inl h1, by simp, fun m hm hle => ?_⟩
        have : m = minI x l := by
          have h1 : m ≤ minI x l := hle _ (by rcases m1 with z | z <;> simp [z])
          have h2 : minI x l ≤ m := by rcases List.mem_cons.mp hm with rfl | z; exact m2; exact m3 m z
          omega
        rw [this]
        exact q.sh (.int _)
  · cases ev
theorem call_maxP (hc : X.calm = true) : CallR X (.builtin "max") (rBI X.K .max) := by
  intro pins s σ H xs us Q I r ⟨P, ds, rr, hP, hd, ev, q⟩
  unfold evBI at ev
  split at ev <;> first | (rename_i z1; cases z1) | skip
  · cases ev
    obtain ⟨v, u, rfl, h, h'⟩ := two hd
    have := h.int
    subst this
    have := h'.int
    subst this
    exact call_max2 hc pins s σ H _ us Q I r ⟨_, _, rfl, q.sh (.int _)⟩
  · obtain ⟨v, rfl, h⟩ := one hd
    obtain ⟨a, ys, rfl, h1, ha⟩ := h.list
    rename_i ds'
    cases e : intsOf ds' with
    | none => rw [e] at ev; cases ev
    | some l =>
      rw [e] at ev
      cases l with
      | nil => cases ev
      | cons x l =>
        cases ev
        have := rpA_list_ints e ha
        subst this
        obtain ⟨m1, m2, m3⟩ := maxI_mem l x
        refine cr_max hc pins s σ H _ us Q I r ⟨a, x :: l, rfl, .inl h1, by simp, fun m hm hle => ?_⟩
        have : m = maxI x l := by
          have h1 : maxI x l ≤ m := hle _ (by rcases m1 with z | z <;> simp [z])
          have h2 : m ≤ maxI x l := by rcases List.mem_cons.mp hm with rfl | z; exact m2; exact m3 m z
          omega
        rw [this]
        exact q.sh (.int _)
  · cases ev
theorem call_sumP (hc : X.calm = true) : CallR X (.builtin "sum") (rBI X.K .sum) := by
  intro pins s σ H xs us Q I r ⟨P, ds, rr, hP, hd, ev, q⟩
  unfold evBI at ev
  split at ev <;> first | (rename_i z1; cases z1) | skip
  · obtain ⟨v, rfl, h⟩ := one hd
    obtain ⟨a, ys, rfl, h1, ha⟩ := h.list
    rename_i ds'
    cases e : intsOf ds' with
    | none => rw [e] at ev; cases ev
    | some l =>
      rw [e] at ev
      cases ev
      have := rpA_list_ints e ha
      subst this
      exact cr_sum hc pins s σ H _ us Q I r ⟨a, l, rfl, .inl h1, q.sh (.int _)⟩
  · cases ev
theorem call_listP : CallR X (.type "list") (rBI X.K .list) := by
  intro pins s σ H xs us Q I r ⟨P, ds, rr, hP, hd, ev, q⟩
  unfold evBI at ev
  split at ev <;> first | (rename_i z1; cases z1) | skip
  · cases ev
    obtain ⟨v, rfl, h⟩ := one hd
    obtain ⟨a, ys, rfl, h1, ha⟩ := h.list
    exact call_list_of pins s σ H _ us Q I r ⟨a, ys, rfl, .inl (.inl h1), fun p hp => q.new hP ha p hp⟩
  · cases ev
    obtain ⟨v, rfl, h⟩ := one hd
    obtain ⟨a, ys, rfl, h1, ha⟩ := h.tuple
    exact call_list_of pins s σ H _ us Q I r ⟨a, ys, rfl, .inr h1, fun p hp => q.new hP ha p hp⟩
  · cases ev
theorem call_tupleP : CallR X (.type "tuple") (rBI X.K .tuple) := by
  intro pins s σ H xs us Q I r ⟨P, ds, rr, hP, hd, ev, q⟩
  unfold evBI at ev
  split at ev <;> first | (rename_i z1; cases z1) | skip
  · cases ev
    obtain ⟨v, rfl, h⟩ := one hd
    obtain ⟨a, ys, rfl, h1, ha⟩ := h.list
    exact call_tuple_of pins s σ H _ us Q I r ⟨a, ys, rfl, .inl ⟨.inl h1, fun p hp => q.newT hP ha p hp⟩⟩
  · cases ev
    obtain ⟨v, rfl, h⟩ := one hd
    rcases h with h | ⟨a, xs, ds, e1, e2, e3, h⟩
    · obtain ⟨a, ys, rfl, h1, ha⟩ := (RpB.tuple (.inl h))
      exact call_tuple_of pins s σ H _ us Q I r ⟨a, ys, rfl, .inr ⟨h1, q.sh h⟩⟩
    · cases e2
  · cases ev
/-- isinstance(x, T) -/
def rIs (K : PySem.W.Frag) (T : String) (f : PyData → Bool) : List V → Hp → VK → Prop := fun vs H Q => ∃ (P : Addr → Prop) (x : V) (d : PyData), vs = [x, .ty T] ∧ RpB K H P x d ∧ Q (.bl (f d)) H
theorem call_isIntP : CallR X (.builtin "isinstance") (rIs X.K "int" PyData.isInt) := by
  intro pins s σ H xs us Q I r ⟨P, x, d, e, hd, q⟩
  subst e
  obtain ⟨u1, u2, rfl, r1, r2⟩ := vals2 r
  cases r2
  obtain ⟨as, rd⟩ := Dp.reads I d x u1 hd.dp r1
  exact PySem.W.isinstance_int_data rd fun tk _ => ⟨.bl _, H, I.tok tk, rfl, q⟩
theorem call_isBoolP : CallR X (.builtin "isinstance") (rIs X.K "bool" PyData.isBool) := by
  intro pins s σ H xs us Q I r ⟨P, x, d, e, hd, q⟩
  subst e
  obtain ⟨u1, u2, rfl, r1, r2⟩ := vals2 r
  cases r2
  obtain ⟨as, rd⟩ := Dp.reads I d x u1 hd.dp r1
  exact PySem.W.isinstance_bool_data rd fun tk _ => ⟨.bl _, H, I.tok tk, rfl, q⟩
theorem call_isListP : CallR X (.builtin "isinstance") (rIs X.K "list" PyData.isList) := by
  intro pins s σ H xs us Q I r ⟨P, x, d, e, hd, q⟩
  subst e
  obtain ⟨u1, u2, rfl, r1, r2⟩ := vals2 r
  cases r2
  obtain ⟨as, rd⟩ := Dp.reads I d x u1 hd.dp r1
  exact PySem.W.isinstance_list_data rd fun tk _ => ⟨.bl _, H, I.tok tk, rfl, q⟩
theorem call_isTupleP : CallR X (.builtin "isinstance") (rIs X.K "tuple" PyData.isTuple) := by
  intro pins s σ H xs us Q I r ⟨P, x, d, e, hd, q⟩
  subst e
  obtain ⟨u1, u2, rfl, r1, r2⟩ := vals2 r
  cases r2
  obtain ⟨as, rd⟩ := Dp.reads I d x u1 hd.dp r1
  exact PySem.W.isinstance_tuple_data rd fun tk _ => ⟨.bl _, H, I.tok tk, rfl, q⟩
theorem call_isStrP : CallR X (.builtin "isinstance") (rIs X.K "str" PyData.isStr) := by
  intro pins s σ H xs us Q I r ⟨P, x, d, e, hd, q⟩
  subst e
  obtain ⟨u1, u2, rfl, r1, r2⟩ := vals2 r
  cases r2
  obtain ⟨as, rd⟩ := Dp.reads I d x u1 hd.dp r1
  exact PySem.W.isinstance_str_data rd fun tk _ => ⟨.bl _, H, I.tok tk, rfl, q⟩
/-- sorted: ints, or data of one kind -/
theorem each_of {H : Hp} {P : Addr → Prop} : ∀ {xs : List V} {us : List Value} {ds : List PyData}, Vals xs us → RpA X.K H P xs ds → PySem.W.EachIs (fun (u : Value) (d : PyData) => ∃ x, RelV x u ∧ Rp X.K H P x d) us ds
  | _, _, _, .nil, .nil => .nil
  | _, _, _, .cons r t, .cons h t' => .cons ⟨_, r, h⟩ (each_of t t')
theorem each_back {H : Hp} {P : Addr → Prop} : ∀ {us : List Value} {ds : List PyData}, PySem.W.EachIs (fun (u : Value) (d : PyData) => ∃ x, RelV x u ∧ Rp X.K H P x d) us ds → ∃ xs, Vals xs us ∧ RpA X.K H P xs ds
  | _, _, .nil => ⟨[], .nil, .nil⟩
  | _, _, .cons ⟨x, r, h⟩ t => let ⟨xs, r', h'⟩ := each_back t; ⟨x :: xs, .cons r r', .cons h h'⟩
theorem sdok_of {ds : List PyData} (h : sdok ds = true) : PySem.W.AllAlike (ds.map fun d => d) ∧ PySem.W.Sortable (ds.map fun d => d) ∧ PyData.depthAll ds ≤ 50 := by
  unfold sdok at h
  rw [Bool.and_eq_true, Bool.and_eq_true] at h
  obtain ⟨⟨h1, h2⟩, h3⟩ := h
  have e : (ds.map fun d => d) = ds := List.map_id' ds
  rw [e]
  refine ⟨fun d hd d' hd' => ?_, ?_, Nat.le_of_ble_eq_true h3⟩
  · exact List.all_eq_true.mp (List.all_eq_true.mp h1 d hd) d' hd'
  · rw [Bool.or_eq_true] at h2
    rcases h2 with h2 | h2
    · refine .inl fun d hd => ?_
      have := List.all_eq_true.mp h2 d hd
      unfold tupOk at this
      split at this
      · exact ⟨_, _, rfl⟩
      · cases this
    · refine .inr fun d hd => ?_
      have := List.all_eq_true.mp h2 d hd
      constructor
      · intro z; subst z; cases this
      · intro xs z; subst z; cases this
theorem depth_le_all : ∀ {ds : List PyData} {d : PyData}, d ∈ ds → d.depth ≤ PyData.depthAll ds
  | x :: xs, d, h => by
    rw [PyData.depthAll]
    rcases List.mem_cons.mp h with rfl | h
    · exact Nat.le_max_left _ _
    · exact Nat.le_trans (depth_le_all h) (Nat.le_max_right _ _)
theorem call_sortedP (hu : X.A.units + 64 < cLine) : CallR X (.builtin "sorted") (rBI X.K .sorted) := by
  intro pins s σ H xs us Q I r ⟨P, ds, rr, hP, hd, ev, q⟩
  unfold evBI at ev
  split at ev <;> first | (rename_i z1; cases z1) | skip
  · obtain ⟨v, rfl, h⟩ := one hd
    obtain ⟨a, ys, rfl, h1, ha⟩ := h.list
    rename_i ds'
    split at ev
    · rename_i l e
      cases ev
      have := rpA_list_ints e ha
      subst this
      refine cr_sortedI pins s σ H _ us Q I r ⟨a, l, rfl, .inl h1, fun ns' p hp hs hn => ?_⟩
      have e1 : ns' = sortI l := PySem.W.ksm_same (hp.trans (sortI_perm l).symm) hs (sortI_pw l)
      rw [e1]
      exact q.new hP rpA_ints p hn
    · split at ev
      · rename_i hs
        cases ev
        obtain ⟨k1, k2, k3⟩ := sdok_of hs
        obtain ⟨its, rv, hl, hz⟩ := I.list (.inl h1)
        rw [Vals.ref1 r]
        have e1 := each_of (X := X) rv ha
        have e2 : PySem.W.EachIs (fun (u : Value) (d : PyData) => ∃ as, Reads s.heap u d as) its ds' := e1.mono fun u d ⟨x, rx, hx⟩ => Dp.reads I d x u (Rp.dp d x hx) rx
        refine PySem.W.sorted_data (enc := fun d => d) hl.isList e1 e2 k1 k2 (by rw [← ha.length]; exact hz) (fun b hb => ?_) fun out hlen he => ?_
        · have := depth_le_all hb
          omega
        · obtain ⟨zs, hz1, hz2⟩ := each_back he
          obtain ⟨ep, he'⟩ := PyProof.Rows.sortedAll_at s.heap its out.toArray
          have hn : H (s.heap.objs.size + 1) = none := I.hok.fresh (Nat.le_succ _)
          have hlen' : zs.length ≤ sizeLine := by rw [hz1.length, hlen, ← ha.length]; exact hz
          exact ⟨.ref _, upd H (s.heap.objs.size + 1) (.lst zs), I.laid (t' := s.toks) (fun _ _ => PyProof.Rows.sortedAll_old) (Nat.le_succ _) ⟨hlen', out, ep, hz1, he'⟩, rfl, q.new hP hz2 _ hn⟩
      · cases ev
  · cases ev
/-- xs.index(x) -/
theorem idxD_some {x : PyData} : ∀ {ds : List PyData} {n k : Nat}, idxD x ds n = some k → ∃ j, k = n + j ∧ ∃ z, ds[j]? = some z ∧ PyData.eqv z x = true ∧ ∀ (m : Nat) z', m < j → ds[m]? = some z' → PyData.eqv z' x = false
  | [], n, k, h => by cases h
  | y :: ys, n, k, h => by
    unfold idxD at h
    split at h
    · rename_i hc
      cases h
      exact ⟨0, rfl, y, rfl, hc, fun m z' hm => absurd hm (by omega)⟩
    · rename_i hc
      obtain ⟨j, e, z, h1, h2, h3⟩ := idxD_some h
      refine ⟨j + 1, by omega, z, by simpa using h1, h2, fun m z' hm hz' => ?_⟩
      cases m with
      | zero => simp at hz'; subst hz'; simpa using hc
      | succ m => exact h3 m z' (by omega) (by simpa using hz')
theorem mt_indexP (hu : X.A.units + 65 < cLine) : MtR X "list.index" (fun x xs H Q => rBI X.K .index (x :: xs) H Q) := by
  intro pins s σ H x xs v us Q I rx rxs ⟨P, ds, rr, hP, hd, ev, q⟩
  unfold evBI at ev
  split at ev <;> first | (rename_i z1; cases z1) | skip
  · rename_i es d
    split at ev
    · rename_i hc
      rw [Bool.and_eq_true] at hc
      obtain ⟨o1, o2⟩ := hc
      obtain ⟨p1, n1⟩ := dok_plain o1
      obtain ⟨p2, n2⟩ := dok_plain o2
      have p3 : PyData.plainAll es = true := by simpa [PyData.plain] using p2
      cases e : idxD d es 0 with
      | none => rw [e] at ev; cases ev
      | some k =>
        rw [e] at ev
        cases ev
        obtain ⟨j, ej, z, hz, hzj, hno⟩ := idxD_some e
        obtain rfl : k = j := by omega
        cases hd with
        | cons hd1 hd2 =>
          obtain ⟨y, rfl, hy⟩ := one hd2
          obtain ⟨a, ys, rfl, h1, ha⟩ := hd1.list
          cases rx
          obtain ⟨uy, rfl, ry⟩ := rxs.one
          obtain ⟨bs, r1⟩ := Dp.reads I d y uy hy.dp ry
          obtain ⟨its, rv, ⟨⟨cls, dd, data, sls⟩, n, ho, hc, hdn, hdt⟩, hlen⟩ := I.list (.inl h1)
          simp only at hc hdt
          subst hc hdt
          obtain ⟨as, h4⟩ := Dp.readsAll I es _ its (RpA.dp es _ ha) rv
          have hn : its.length = es.length := SeqAt.ReadsAll.length es its as h4
          have hmap : its.map (SeqAt.readOf s.heap) = es := SeqAt.readsAll_map_plain es its as p3 h4
          have hvl := rv.length
          have hsl := sizeLine_eq
          obtain ⟨hjd, _⟩ := List.getElem?_eq_some_iff.mp hz
          have hjl : k < its.length := by omega
          have hj : k < its.toArray.size := by simpa using hjl
          have at_ : ∀ (m : Nat) (hm : m < its.toArray.size) (z' : PyData), es[m]? = some z' → SeqAt.readOf s.heap its.toArray[m] = z' := by
            intro m hm z' hz'
            have hml : m < its.length := by simpa using hm
            rw [← hmap, List.getElem?_map, List.getElem?_eq_getElem hml] at hz'
            have e1 : SeqAt.readOf s.heap its[m] = z' := Option.some.inj (show some (SeqAt.readOf s.heap its[m]) = some z' from hz')
            simpa using e1
          have hm : min (PyData.depthAll es) d.depth ≤ 50 := Nat.le_trans (Nat.min_le_right _ _) n1
          refine call_meets PySem.F.slot_list_index ⟨_, ho, rfl⟩ PySem.F.entry_list_index (PySem.F.args_list_index_2 _ _)
            (SeqAt.list_indexAt a its.toArray n dd sls uy (fun u => PyData.eqv (SeqAt.readOf s.heap u) d) k hj (by omega) ?_ ?_) ⟨ho, SeqAt.items_plain (vs := its.toArray) (show ReadsAll s.heap its.toArray.toList es as from h4) r1 p3 p1 (by omega), ?_⟩
          · show PyData.eqv (SeqAt.readOf s.heap its.toArray[k]) d = true
            rw [at_ k hj z hz]
            exact hzj
          · intro m hm hmj
            have hmd : m < es.length := by omega
            have hz' : es[m]? = some es[m] := List.getElem?_eq_getElem hmd
            show PyData.eqv (SeqAt.readOf s.heap its.toArray[m]) d = false
            rw [at_ m hm _ hz']
            exact hno m _ hmj hz'
          · exact ⟨.int (k : Nat), H, I.tok _, ⟨_, rfl⟩, q.sh (.int _)⟩
    · cases ev
  · cases ev
end
end PV

set_option Elab.async false
set_option linter.all false
set_option maxRecDepth 100000
set_option maxHeartbeats 4000000
/-! PV4s: set of a list of ints; sorted(set(..)). -/
namespace PV
open PySem PySem.Spec PyProof.Rows L2

section
variable {P : Program} {w : World} {A : Around} {E : Value → Shared → Prop} {s : Shared}
theorem call_set_lstP {l : Addr} {arr : Array Value} (ns : List Int) {Q : Value → Shared → Prop} (hh : A.handled = none) (hl : s.heap.IsList l arr) (hia : IntsAre arr.toList ns) (hb : ns.length + 1 < scanBound)
    (h : ∀ (hq : Heap) (tk c : Nat), SetR w hq s.heap.objs.size (fun j => decide (j ∈ ns)) c → c ≤ ns.length → (∀ b o, s.heap.get? b = some o → hq.get? b = some o) → Q (.ref s.heap.objs.size) { s with heap := hq, toks := tk }) :
    wpAny (model P w) A (call (.type "set") [.ref l]) Q E s := by
  have hasz : arr.size = ns.length := by
    have q := IntsAre.length hia
    rw [Array.length_toList] at q
    exact q
  obtain ⟨c, tl0, kmro⟩ := F.called_set.mro
  have kmade := F.called_set.made
  have ksub := F.called_set.sub
  refine wpAny_call (codeAny_of_tree ?_)
  show wpAny _ _ (callAny (.type "set") _) _ _ _
  refine wpAny_pure ⟨Code.quiet_builtin _ (by decide +kernel), codeAny_builtin F.entry_type_call ?_⟩
  rw [Around.under_plain (weight_type_call_type "set" [.ref l] []) rfl]
  have f1 := F.called_set.notType
  have f2 := F.called_set.canCreate
  have fct := F.typeCall_set_1 (.ref l)
  repeat (any_goals (first | assumption | wp_step))

  refine codeAny_mono (code_set_led1 (.ref l) (E := E) (Q₁ := fun ob s₁ => ob = .ref s.heap.objs.size ∧ s₁ = { s with heap := s.heap.push { cls := .type "set", dict := none, data := .set #[] 0 (.fresh 0 0 (!w.params.followText "set-order")) } }) ⟨rfl, rfl⟩) fun r s₁ rr => ?_
  cases r with
  | error e => exact rr
  | ok fw =>
    cases fw with
    | ret ob =>
      obtain ⟨rfl, rfl⟩ := rr
      have kS : (s.heap.push { cls := .type "set", dict := none, data := .set #[] 0 (.fresh 0 0 (!w.params.followText "set-order")) }).get? s.heap.objs.size = some { cls := .type "set", dict := none, data := .set #[] 0 (.fresh 0 0 (!w.params.followText "set-order")) } := Heap.get?_push_size _ rfl
      have kT : Shared.TypeIs { s with heap := s.heap.push { cls := .type "set", dict := none, data := .set #[] 0 (.fresh 0 0 (!w.params.followText "set-order")) } } (.ref s.heap.objs.size) "set" := ⟨_, kS, rfl⟩
      have kli := F.called_set.init.lookup
      have kbi := F.called_set.init.bind (.ref s.heap.objs.size)
      repeat (any_goals (first | assumption | wp_step))

      refine codeAny_mono (codeAny_call_builtin (R := wants (fun r s₂ => r = .none ∧ ∃ hq tk c, s₂ = { s with heap := hq, toks := tk } ∧ SetR w hq s.heap.objs.size (fun j => decide (j ∈ ns)) c ∧ c ≤ ns.length ∧
          (∀ b o, s.heap.get? b = some o → hq.get? b = some o)) E) F.called_set.init.plain F.entry_set_init (check_set_init_1 kT ?_)) fun r₂ s₂ hr₂ => ?_
      · obtain ⟨ob0, hob, kcl, kn, kdl⟩ := hl
        obtain ⟨kc, kd, kx, ksl⟩ := ob0
        simp only at kcl kdl
        subst kcl; subst kdl
        have hob1 : (s.heap.push { cls := .type "set", dict := none, data := .set #[] 0 (.fresh 0 0 (!w.params.followText "set-order")) }).get? l = some { cls := .type "list", dict := kd, data := .seq arr kn, slots := ksl } := Heap.get?_push_of_some _ hob
        have q1 := F.sub_list_set
        have q2 := F.sub_list_frozenset
        have q3 : (Value.type "list" == Value.type "dict") = false := by decide
        have q4 : (s.heap.push { cls := .type "set", dict := none, data := .set #[] 0 (.fresh 0 0 (!w.params.followText "set-order")) }).IsList l arr := ⟨_, hob1, rfl, kn, rfl⟩
        unfold Builtin.«set.__init__» noKeywords Builtin.Frozenset.updateFrom
        generalize hPI : pyIter = PI
        wp_walk
        subst hPI

        refine wpAny_pyIter_list q4 ?_
        refine wpAny_bind (wpAny_runValue ?_)
        have q5 : l < s.heap.objs.size := Heap.lt_size hob
        have q6 : A.in1.in1.in1.handled = none := by simp [hh]
        have q7 : (s.heap.push { cls := .type "set", dict := none, data := .set #[] 0 (.fresh 0 0 (!w.params.followText "set-order")) }).objs.size = s.heap.objs.size + 1 := Heap.size_push ..
        have q8 : l ≠ (s.heap.push { cls := .type "set", dict := none, data := .set #[] 0 (.fresh 0 0 (!w.params.followText "set-order")) }).objs.size := by
          rw [Heap.size_push]; exact Nat.ne_of_lt (Nat.lt_succ_of_lt q5)
        have q9 : s.heap.objs.size ∉ [(s.heap.push { cls := .type "set", dict := none, data := .set #[] 0 (.fresh 0 0 (!w.params.followText "set-order")) }).objs.size, l] := by
          rw [Heap.size_push]; simp only [List.mem_cons, List.mem_singleton, List.not_mem_nil, or_false, not_or]
          exact ⟨Nat.ne_of_lt (Nat.lt_succ_self _), Nat.ne_of_gt q5⟩
        have qv : ∀ (i : Nat) (v : Value), arr[i]? = some v → ∃ k t, ns[i]? = some k ∧ v = .int k t := fun i v hv => by
          have hi : i < ns.length := by rw [← hasz]; exact (Array.getElem?_eq_some_iff.mp hv).1
          obtain ⟨t, e⟩ := PyProof.Rows.IntsAre.int_at hia i v (by rw [Array.getElem?_toList]; exact hv)
          refine ⟨ns[i], t, List.getElem?_eq_getElem hi, ?_⟩
          rw [e, List.getD_eq_getElem?_getD, List.getElem?_eq_getElem hi] <;> rfl
        refine set_update_ints ((Walks.list q6 _ l q8 arr).toS) s.heap.objs.size
          q9 ns hasz hb qv (arr.size - 0) 0 _ (by omega) (Nat.zero_le _)
          ⟨⟨_, Heap.get?_push_size _ rfl, rfl, rfl⟩, (q4.push _)⟩ ?hS0 ?hR
        case hS0 =>
          have kget : ((s.heap.push { cls := .type "set", dict := none, data := .set #[] 0 (.fresh 0 0 (!w.params.followText "set-order")) }).push { cls := .type "list_iterator", data := .fields #[.ref l, .int 0 0] }).get? s.heap.objs.size
              = some { cls := .type "set", dict := none, data := .set #[] 0 (.fresh 0 0 (!w.params.followText "set-order")) } := Heap.get?_push_of_some _ kS
          exact ⟨0, Nat.le_refl 0, setR_new_at kget⟩
        case hR =>
          intro s' c' km kc2 kS2
          obtain ⟨hq, g2, d', tk', os'⟩ := s'
          have e1 : g2 = s.gens := km.gens
          have e2 : d' = s.drawn := km.drawn
          have e3 : os' = s.os := km.os
          subst e1; subst e2; subst e3
          show wpAny _ _ _ _ _ _
          refine wpAny_pure ?_
          show wpAny _ _ (ret Value.none) _ _ _
          rw [hasz] at kc2
          refine wpAny_pure ⟨rfl, hq, tk', c', rfl, kS2, kc2, fun b o e => ?_⟩
          have b0 : b < s.heap.objs.size := Heap.lt_size e
          have b1 : b ≠ s.heap.objs.size := Nat.ne_of_lt b0
          have b2 : b ≠ (s.heap.push { cls := .type "set", dict := none, data := .set #[] 0 (.fresh 0 0 (!w.params.followText "set-order")) }).objs.size := by
            rw [Heap.size_push]; exact Nat.ne_of_lt (Nat.lt_succ_of_lt b0)
          exact km.heap b o (by simp only [List.mem_cons, List.mem_singleton, List.not_mem_nil, or_false, not_or]; exact ⟨b1, b2⟩) (Heap.get?_push_of_some _ (Heap.get?_push_of_some _ e))

      · cases r₂ with
        | error e => exact hr₂
        | ok fl₂ =>
          cases fl₂ with
          | ret r =>
            obtain ⟨rfl, hq, tk, c', rfl, kS2, kc2, hk'⟩ := hr₂
            repeat (any_goals (first | assumption | wp_step))
            exact h _ _ _ kS2 kc2 hk'
          | _ => exact hr₂.elim
    | _ => exact rr.elim
end

theorem dedupI_mem {x : Int} : ∀ {l : List Int}, x ∈ dedupI l ↔ x ∈ l
  | [] => Iff.rfl
  | y :: ys => by
    unfold dedupI
    by_cases h : ys.contains y = true
    · rw [if_pos h, dedupI_mem, List.mem_cons]
      refine ⟨fun z => .inr z, fun z => z.elim (fun e => ?_) fun z => z⟩
      rw [e]; exact List.contains_iff_mem.mp h
    · rw [if_neg h, List.mem_cons, List.mem_cons, dedupI_mem]
theorem dedupI_nodup : ∀ {l : List Int}, (dedupI l).Nodup
  | [] => by simp [dedupI]
  | y :: ys => by
    unfold dedupI
    by_cases h : ys.contains y = true
    · rw [if_pos h]; exact dedupI_nodup
    · rw [if_neg h, List.nodup_cons]
      exact ⟨fun z => h (List.contains_iff_mem.mpr (dedupI_mem.mp z)), dedupI_nodup⟩
theorem setI_eq {l ns : List Int} (h1 : ns.Pairwise (· < ·)) (h2 : ∀ k : Int, k ∈ ns ↔ k ∈ l) : ns = sortI (dedupI l) := by
  refine PySem.W.ksm_same ?_ (h1.imp fun h => Int.le_of_lt h) (sortI_pw _)
  refine List.Perm.trans ?_ (sortI_perm _).symm
  refine (List.perm_ext_iff_of_nodup (h1.imp fun h => Int.ne_of_lt h) dedupI_nodup).mpr fun k => ?_
  rw [h2, dedupI_mem]
def rSetP (w : World) (K : PySem.W.Frag) : List V → Hp → VK → Prop := fun vs H Q => ∃ (Pz : Addr → Prop) (ds : List PyData) (ns : List Int), RpBs K H Pz vs [.list ds] ∧ intsOf ds = some ns ∧ ns.length < 64 ∧ ∀ p c, H p = none → c < 64 → Q (.ref p) (upd H p (SetO w p (fun j => decide (j ∈ ns)) c))
section
variable {X : Cx}
theorem call_setP (hc : X.calm = true) : CallR X (.type "set") (rSetP X.w X.K) := by
  intro pins s σ H xs us Q I r ⟨Pz, ds, ns, hd, e, hl, q⟩
  obtain ⟨v, rfl, h⟩ := one hd
  obtain ⟨a, ys, rfl, h1, ha⟩ := h.list
  have := rpA_list_ints e ha
  subst this
  obtain ⟨its, rv, hls, hz⟩ := I.list (.inl h1)
  rw [Vals.ref1 r]
  refine call_set_lstP ns (I.ok.hd hc) hls.isList (ints_of_vals rv) (by unfold scanBound; omega) fun h' tk c R1 hcn k => ?_
  exact ⟨.ref _, upd H s.heap.objs.size (SetO X.w s.heap.objs.size (fun j => decide (j ∈ ns)) c), I.laid (t' := tk) k (Nat.le_refl _) (setO_new R1), rfl, q _ c (I.hok.fresh (Nat.le_refl _)) (Nat.lt_of_le_of_lt hcn hl)⟩
end
end PV

set_option Elab.async false
set_option linter.all false
set_option maxRecDepth 100000
set_option maxHeartbeats 4000000
/-! PVX: reversed sequences, list(range(..)), repr of plain data, list.count. -/
namespace PV
open PySem PySem.Spec PyProof.Rows L2
section
variable {prog : Program} {w : World} {A : Around} {E : Value → Shared → Prop} {s : Shared}
theorem back_bounds (n : Nat) : Builtin.Slice.sliceAdjust none none (-1) (n : Int) = ((n : Int) - 1, -1) := by
  unfold Builtin.Slice.sliceAdjust
  simp
theorem back_places (n : Nat) : Builtin.Slice.slicePlaces ((n : Int) - 1) (-1) (-1) = n := by
  unfold Builtin.Slice.slicePlaces
  have h1 : ¬ ((-1 : Int) > 0) := by omega
  simp only [h1, if_false]
  have h2 : -(-1 : Int) = 1 := by omega
  rw [h2, Int.ediv_one]
  split <;> omega
theorem back_applied {sl : Addr} {t : Tok} {n : Nat} {Q : Int × Int × Nat → Shared → Prop} (hs : s.heap.IsSliceOf sl .none .none (.int (-1) t)) (h : Q ((n : Int) - 1, -1, n) s) :
    wpAny (model prog w) A (Builtin.Slice.sliceApplied (.ref sl) (pure (n : Int))) Q E s := by
  obtain ⟨os, hos, hcs, hds⟩ := id hs
  unfold Builtin.Slice.sliceApplied Builtin.Slice.sliceFields
  refine wpAny_bind (wpAny_bind (wpAny_field hos hds (x := Value.none) rfl (wpAny_bind (wpAny_field hos hds (x := Value.none) rfl (wpAny_bind (wpAny_field hos hds (x := Value.int (-1) t) rfl
    (wpAny_pure ?_)))))))
  refine wpAny_bind (slicePart_int ?_)
  show wpAny _ _ (if ((-1 : Int) == 0) = true then _ else _) _ _ s
  rw [if_neg (by decide)]
  refine wpAny_bind (slicePart_none (wpAny_bind (slicePart_none (wpAny_bind (wpAny_pure ?_)))))
  show wpAny _ _ (match Builtin.Slice.sliceAdjust none none (-1) (n : Int) with | (lo, hi) => pure (lo, (-1 : Int), Builtin.Slice.slicePlaces lo hi (-1))) _ _ s
  rw [back_bounds]
  show wpAny _ _ (pure ((n : Int) - 1, (-1 : Int), Builtin.Slice.slicePlaces ((n : Int) - 1) (-1) (-1))) _ _ s
  rw [back_places]
  exact wpAny_pure h
theorem fm_congr {α β : Type} {f g : α → Option β} : ∀ {l : List α}, (∀ x ∈ l, f x = g x) → l.filterMap f = l.filterMap g
  | [], _ => rfl
  | x :: l, h => by rw [List.filterMap_cons, List.filterMap_cons, h x List.mem_cons_self, fm_congr fun y hy => h y (List.mem_cons_of_mem _ hy)]
theorem back_pick (xs : List Value) : ((List.range xs.length).filterMap fun (m : Nat) => xs.toArray[((xs.length : Int) - 1 + (m : Int) * (-1)).toNat]?) = xs.reverse := by
  apply List.ext_getElem?
  intro i
  have e : ((List.range xs.length).filterMap fun (m : Nat) => xs.toArray[((xs.length : Int) - 1 + (m : Int) * (-1)).toNat]?) = (List.range xs.length).map fun m => (xs[xs.length - 1 - m]?).getD .none := by
    rw [← List.filterMap_eq_map]
    refine fm_congr fun m hm => ?_
    rw [List.mem_range] at hm
    have e1 : ((xs.length : Int) - 1 + (m : Int) * (-1)).toNat = xs.length - 1 - m := by omega
    rw [e1]
    have h2 : xs.length - 1 - m < xs.length := by omega
    simp [List.getElem?_eq_getElem h2]
  rw [e, List.getElem?_map]
  by_cases hi : i < xs.length
  · rw [List.getElem?_range hi, List.getElem?_reverse hi]
    have h2 : xs.length - 1 - i < xs.length := by omega
    simp [List.getElem?_eq_getElem h2]
  · rw [List.getElem?_eq_none (by simpa using hi), List.getElem?_eq_none (by simpa using hi)]
    rfl
theorem back_tuple {t sl : Addr} {xs : List Value} {k : Tok} {Q : Value → Shared → Prop} (ht : IsTup s.heap t xs.toArray) (hs : s.heap.IsSliceOf sl .none .none (.int (-1) k))
    (h : Q (.ref s.heap.objs.size) { s with heap := s.heap.push { cls := .type "tuple", data := .seq xs.reverse.toArray } }) (hsz : xs.length ≤ sizeLine) : wpAny (model prog w) A (getItem (.ref t) (.ref sl)) Q E s := by
  have hz : sizeOk (.seq xs.reverse.toArray) := by
    show xs.reverse.toArray.size ≤ sizeLine
    rw [List.size_toArray, List.length_reverse]
    exact hsz
  obtain ⟨os, hos, hcs, hds⟩ := id hs
  have hTs : s.TypeIs (.ref sl) "slice" := ⟨os, hos, hcs⟩
  unfold getItem
  try with_reducible refine wpAny_holding ?_
  first | refine wpAny_bind (wpAny_pure ?_) | skip
  refine wpAny_bind (wpAny_sequenceKey ht.typeIs (by decide) ?_)
  refine wpAny_bind (wpAny_callSpecial?_slot (name := Str.ofString "__getitem__") ht.typeIs PyProof.Rows.slot_tuple_getitem (wpAny_call_entry PyProof.Rows.slot_tuple_getitem ht.typeIs entry_tuple_getitem ?_ (args_tuple_getitem _ _)))
  show wpAny _ _ (Builtin.Tuple.tupleItemsOf (.ref t) >>= _) _ _ s
  refine wpAny_bind (tupleItemsOf_ ht (wpAny_bind (wpAny_typeOf hTs ?_)))
  rw [if_pos (by decide)]
  have hn : xs.toArray.size = xs.length := List.size_toArray
  refine wpAny_bind (m := Builtin.Slice.sliceApplied (.ref sl) (pure ((xs.toArray.size : Nat) : Int))) ?_
  rw [hn]
  refine back_applied hs ?_
  show wpAny _ _ (if (((xs.length : Int) - 1) == 0 && (-1 : Int) == 1 && xs.length == xs.toArray.size) = true then _ else _) _ _ s
  have hno : ¬ ((((xs.length : Int) - 1) == 0 && (-1 : Int) == 1 && xs.length == xs.toArray.size) = true) := by simp
  rw [if_neg hno, back_pick]
  first
    | exact wpAny_bind (m := Builtin.Tuple.tupleExact _) (wpAny_newObj_type (wpAny_pure ⟨_, rfl, wpAny_pure h⟩) hz)
    | exact wpAny_bind (m := Builtin.Tuple.tupleExact _) (wpAny_newObj_type (wpAny_bind (wpAny_pure (wpAny_pure ⟨_, rfl, wpAny_pure h⟩))) hz)
    | exact wpAny_bind (wpAny_bind (m := Builtin.Tuple.tupleExact _) (wpAny_newObj_type (wpAny_pure (wpAny_pure ⟨_, rfl, wpAny_pure h⟩)) hz))
    | exact wpAny_bind (wpAny_bind (m := Builtin.Tuple.tupleExact _) (wpAny_newObj_type (wpAny_pure ⟨_, rfl, wpAny_pure h⟩) hz))
end
def tRevB (K : PySem.W.Frag) (te : TE) : TE := fun σ H Q => te σ H fun x H1 => ∃ a xs, x = .ref a ∧ ((SqL K H1 a xs ∧ ∀ p, H1 p = none → Q (.ref p) (upd H1 p (.lst xs.reverse))) ∨ (SqT K H1 a xs ∧ ∀ p, H1 p = none → Q (.ref p) (upd H1 p (.tup xs.reverse))))
theorem pe_revB {X : Cx} {e : Expr} {te : TE} {k : Nat} {p1 p2 p3 pos : Pos} (he : PE X e te) : PE X (.Subscript e (.Slice none none (some (.UnaryOp .USub (.Constant (.int 1) k p1) p2)) p3) pos) (tRevB X.K te) := by
  refine ⟨fun pins s σ H Q I h => Subscript_ (thn (he.run pins s σ H _ I h) fun v s1 ⟨x, H1, I1, r1, a, xs, ex, q⟩ => ?_)⟩
  subst ex
  cases r1
  have hst : PO X (some (.UnaryOp .USub (.Constant (.int 1) k p1) p2)) (tPart (tUn (rU fun i => .int (-i)) (tC (.int 1)))) := po_some (pe_un un_neg pe_int)
  refine wpAny_Slice (thn (po_none.run pins s1 σ H1 (fun o H2 => o = none ∧ H2 = H1) I1 ⟨rfl, rfl⟩) fun vl s2 ⟨l, H2, I2, pl, el, e2⟩ => thn (po_none.run pins s2 σ H2 (fun o H3 => o = none ∧ H3 = H2) I2 ⟨rfl, rfl⟩)
    fun vu s3 ⟨u, H3, I3, pu, eu, e3⟩ => thn (hst.run pins s3 σ H3 (fun o H4 => o = some (-1) ∧ H4 = H3) I3 ⟨1, rfl, -1, rfl, rfl, rfl⟩) fun vs s4 ⟨o, H4, I4, ps, eo, e4⟩ => ?_)
  subst el e2 eu e3 eo e4
  cases pl
  cases pu
  cases ps with
  | int i t =>
  have I5 : Inv X pins σ H4 { s4 with heap := s4.heap.push { cls := .type "slice", data := .fields #[Value.none, Value.none, Value.int (-1) t] } } := I4.kept (t' := s4.toks) fun b ob q => Heap.get?_push_of_some _ q
  show wpAny (model X.prog X.w) X.A (subscriptTail e (.Slice none none (some (.UnaryOp .USub (.Constant (.int 1) k p1) p2)) p3) (.ref a) (.ref s4.heap.objs.size)) (EP X pins σ Q) X.xe _
  rcases q with ⟨hx, q⟩ | ⟨hx, q⟩
  · obtain ⟨its, r, ht, hz⟩ := I5.list hx
    have hlen := r.length
    refine tail_any (ops := [.ref a, .ref s4.heap.objs.size]) ht.isList.typeIs (PySem.slot_list_getitem.lookup) ?_ (by with_unfolding_all rfl)
    refine wpAny_getItem_list_slice ht.isList (Heap.IsSliceOf.new _ Value.none Value.none (Value.int (-1) t)) .none .none (.int (-1) t) (by decide) ?_ (by rw [List.size_toArray]; omega)
    rw [PySem.W.krv_pick]
    refine ⟨.ref _, _, I5.laid (t' := s4.toks) (o := .lst xs.reverse) (fun b ob q => Heap.get?_push_of_some _ q) (Nat.le_refl _) ?_, rfl, q _ (I5.hok.fresh (Nat.le_refl _))⟩
    exact ⟨by rw [List.length_reverse]; exact hz, _, 0, r.reverse, Heap.get?_push_size _ rfl⟩
  · obtain ⟨its, r, ht, hz⟩ := I5.tuple hx
    have hlen := r.length
    refine tail_any (ops := [.ref a, .ref s4.heap.objs.size]) ht.typeIs (PyProof.Rows.slot_tuple_getitem.lookup) ?_ (by with_unfolding_all rfl)
    refine back_tuple (xs := its) ht (Heap.IsSliceOf.new _ Value.none Value.none (Value.int (-1) t)) ?_ (by omega)
    refine ⟨.ref _, _, I5.laid (t' := s4.toks) (o := .tup xs.reverse) (fun b ob q => Heap.get?_push_of_some _ q) (Nat.le_refl _) ?_, rfl, q _ (I5.hok.fresh (Nat.le_refl _))⟩
    exact ⟨by rw [List.length_reverse]; exact hz, _, r.reverse, IsTup.new _ _⟩
/-- no repr is under way -/
abbrev Still (A : Around) : Prop := A.guards = some []
section
variable {X : Cx}
theorem call_reprP (g : Still X.A) (hu : X.A.units + 64 < cLine) : CallR X (.builtin "repr") (rBI X.K .repr) := by
  intro pins s σ H xs us Q I r ⟨P, ds, rr, hP, hd, ev, q⟩
  rcases ds with _ | ⟨d, _ | ⟨e, l⟩⟩
  · exact absurd ev (by simp [evBI])
  · have ev : (if d.showable && !d.hasDict && Nat.ble d.depth 50 && lenOk (d.shown.length + 64) then some (false, PyData.str d.shown) else none) = some rr := ev
    split at ev
    · rename_i hc
      cases ev
      simp only [Bool.and_eq_true, Bool.not_eq_true'] at hc
      obtain ⟨⟨⟨c1, c2⟩, c3⟩, c4⟩ := hc
      have c3 := Nat.le_of_ble_eq_true c3
      have c4 := lenOk_le c4
      obtain ⟨x, rfl, hx⟩ := one hd
      obtain ⟨u, rfl, rx⟩ := r.one
      obtain ⟨as, rd⟩ := Dp.reads I d x u hx.dp rx
      have fin : ∀ (h' : Heap) (t : Tok) (tk : Nat), (∀ b o, s.heap.get? b = some o → h'.get? b = some o) → EP X pins σ Q (.str d.shown t) { s with heap := h', toks := tk } := fun h' t tk hk =>
        ⟨.str d.shown, H, I.kept hk, ⟨t, rfl⟩, q _ _ (Same.refl H) (.str _)⟩
      have seq : ∀ a, u = .ref a → wpAny (model X.prog X.w) X.A (call (.builtin "repr") [u]) (EP X pins σ Q) X.xe s := fun a e => by
        subst e
        exact repr_of_reads' rd c1 (fun z => absurd (c2.symm.trans z) Bool.false_ne_true) g (by omega) (fun b o e => e) (fun h' t tk hk => fin h' t tk hk) (by omega)
      cases rd with
      | none => exact PySem.P.repr_of_none (fin s.heap _ _ fun _ _ e => e)
      | bool b => exact PySem.P.repr_of_bool (fin s.heap _ _ fun _ _ e => e)
      | int i t => exact PySem.P.repr_of_int (by simpa [PyData.showable] using c1) (fin s.heap _ _ fun _ _ e => e)
      | str x t => exact PySem.P.repr_of_str (fin s.heap _ _ fun _ _ e => e) (by have : (reprText x).length + 64 ≤ sizeLine := c4; omega)
      | list => exact seq _ rfl
      | tuple => exact seq _ rfl
      | dict => exact seq _ rfl
    · cases ev
  · exact absurd ev (by simp [evBI])
theorem mt_countP (hu : X.A.units + 65 < cLine) : MtR X "list.count" (fun x xs H Q => rBI X.K .count (x :: xs) H Q) := by
  intro pins s σ H x xs v us Q I rx rxs ⟨P, ds, rr, hP, hd, ev, q⟩
  rcases ds with _ | ⟨d0, _ | ⟨d, _ | ⟨e, l⟩⟩⟩
  · exact absurd ev (by simp [evBI])
  · exact absurd ev (by simp [evBI])
  · obtain ⟨es, rfl⟩ : ∃ es, d0 = .list es := by
      cases d0 with
      | list es => exact ⟨es, rfl⟩
      | _ => exact absurd ev (by simp [evBI])
    have ev : (if dok d && dok (.list es) then some (false, PyData.int (es.countP fun y => PyData.eqv y d : Nat)) else none) = some rr := ev
    split at ev
    · rename_i hc
      rw [Bool.and_eq_true] at hc
      obtain ⟨o1, o2⟩ := hc
      obtain ⟨p1, n1⟩ := dok_plain o1
      obtain ⟨p2, n2⟩ := dok_plain o2
      have p3 : PyData.plainAll es = true := by simpa [PyData.plain] using p2
      cases ev
      cases hd with
      | cons hd1 hd2 =>
        obtain ⟨y, rfl, hy⟩ := one hd2
        obtain ⟨a, ys, rfl, h1, ha⟩ := hd1.list
        cases rx
        obtain ⟨uy, rfl, ry⟩ := rxs.one
        obtain ⟨bs, r1⟩ := Dp.reads I d y uy hy.dp ry
        obtain ⟨its, rv, ⟨⟨cls, dd, data, sls⟩, n, ho, hc, hdn, hdt⟩, hlen⟩ := I.list (.inl h1)
        simp only at hc hdt
        subst hc hdt
        obtain ⟨as, h4⟩ := Dp.readsAll I es _ its (RpA.dp es _ ha) rv
        have hmap : its.map (SeqAt.readOf s.heap) = es := SeqAt.readsAll_map_plain es its as p3 h4
        have hm : min (PyData.depthAll es) d.depth ≤ 50 := Nat.le_trans (Nat.min_le_right _ _) n1
        refine call_meets PySem.F.slot_list_count ⟨_, ho, rfl⟩ PySem.F.entry_list_count (PySem.F.args_list_count_2 _ _)
          (SeqAt.list_countAt a its.toArray n dd sls uy (fun u => PyData.eqv (SeqAt.readOf s.heap u) d)) ⟨ho, SeqAt.items_plain (vs := its.toArray) (show ReadsAll s.heap its.toArray.toList es as from h4) r1 p3 p1 (by omega), ?_⟩
        have e1 : its.toArray.toList.countP (fun u => PyData.eqv (SeqAt.readOf s.heap u) d) = es.countP fun y => PyData.eqv y d := by
          rw [← hmap, List.countP_map]
          rfl
        rw [e1]
        exact ⟨.int _, H, I.tok _, ⟨_, rfl⟩, q.sh (.int _)⟩
    · cases ev
  · exact absurd ev (by cases d0 <;> simp [evBI])
end
end PV

set_option Elab.async false
set_option linter.all false
set_option maxRecDepth 100000
set_option maxHeartbeats 4000000
/-! PVG: promises of defs that are called where no repr is under way. -/
namespace PV
open PySem PySem.Spec PyProof.Rows L2


structure FnG (P : Program) (w : World) (K : PySem.W.Frag) (mg : Str → Option Value) (base : Heap) (k : Nat) (f : Addr) (fd : FuncData) (ps : List Str) (sp : Sp) : Prop where
  len : ∀ xs H Q E, sp xs H Q E → xs.length = ps.length
  run : ∀ (A : Around) (out : List Env) (s : Shared) (H : Hp) (args : Args) (us : List Value) (xs : List V) (Q : VK) (E : XK), Still A → Room k A → Env0 P w K mg base A out s H → BindsTo s fd args (ps.zip us) → Vals xs us → sp xs H Q E →
    codeAny (model P w) A (.call (.ref f) args) (CR CX0 out P w H s Q E) s
section
variable {P : Program} {w : World} {K : PySem.W.Frag} {mg : Str → Option Value} {base : Heap}
theorem FnG.mono {j k : Nat} {f : Addr} {fd : FuncData} {ps : List Str} {sp : Sp} (F : FnG P w K mg base j f fd ps sp) (h : j ≤ k) : FnG P w K mg base k f fd ps sp :=
  ⟨F.len, fun A out s H args us xs Q E g r => F.run A out s H args us xs Q E g (r.mono h)⟩
theorem FnG.of {k : Nat} {f : Addr} {fd : FuncData} {ps : List Str} {sp : Sp} (F : FnOk P w K mg base CX0 k f fd ps sp) : FnG P w K mg base k f fd ps sp :=
  ⟨F.len, fun A out s H args us xs Q E _ r => F.run A out s H args us xs Q E r⟩
theorem FnG.imp {k : Nat} {f : Addr} {fd : FuncData} {ps : List Str} {sp sp' : Sp} (F : FnG P w K mg base k f fd ps sp) (h : ∀ xs H Q E, sp' xs H Q E → sp xs H Q E) : FnG P w K mg base k f fd ps sp' :=
  ⟨fun xs H Q E q => F.len xs H Q E (h _ _ _ _ q), fun A out s H args us xs Q E g r e b v q => F.run A out s H args us xs Q E g r e b v (h _ _ _ _ q)⟩
/-- a def by its body -/
theorem fnG_of {x qual : Str} {st : Stmt} {f : Addr} {fd : FuncData} {N ps : List Str} {k : Nat} {sp : Sp} (F : Fun K x qual st f fd) (S : FnScope N ps (defScope st)) (len : ∀ xs H Q E, sp xs H Q E → xs.length = ps.length)
    (body : ∀ (cdv : Value) (A : Around) (out : List Env) (s : Shared) (H : Hp) (xs : List V) (Q : VK) (E : XK), Still (A.deeper (envOfC qual (defScope st) s.heap.objs.size f cdv)) → Room k (A.deeper (envOfC qual (defScope st) s.heap.objs.size f cdv)) → sp xs H Q E →
      ∃ t, PSs (cxOf CX0 P w K mg base N qual (defScope st) f cdv A out s H E).nox (defBody st) t ∧ t { nx := fun _ H' => Q .non H', rt := Q } (L2.start N xs) H) : FnG P w K mg base (k + 1) f fd ps sp := by
  obtain ⟨oc, od, kV, doc, pm, an, cdv, ct, osl, rfl, lk, hcd⟩ := F.ex
  refine ⟨len, fun A out s H args us xs Q E g hr e0 hb r hsp => ?_⟩
  have hlen := len _ _ _ _ hsp
  have inH : K.In s.heap := e0.mod.kin.keeps fun b o z => (e0.bs b o z).1
  have noLim : s.heap.NoLimit := e0.mod.nolimit.keeps fun b o z => (e0.bs b o z).1
  refine codeAny_call_function hr.depth (inH _ _ lk) rfl S.co S.gen rfl (PySem.W.codeRec_of inH hcd) (hb _ _ _ _ ?_)
  refine wpAny_newFunctionEnv_cells S.kind (fun p hp => ?_) fun env he s1 x => ?_
  · rcases S.par p.1 (List.of_mem_zip (a := p.1) (b := p.2) hp).1 with z | z
    · exact Or.inl z
    · exact Or.inr ⟨z, PySem.W.cellsFrom_some _ _ _ (Or.inl z)⟩
  · subst he
    obtain ⟨t, ht, hq⟩ := body cdv A out s H xs Q E g (hr.deeper _) hsp
    refine ⟨noLim.keeps x.toInCall.keep, codeAny_func ?_⟩
    have I : Inv (cxOf CX0 P w K mg base N qual (defScope st) f cdv A out s H E) [] (L2.start N xs) H s1 := inv_start S hr.hd e0 hlen r x
    refine wpAny_mono (ht.nox.run [] s1 (L2.start N xs) H _ I hq) (fun fl s' hs => ?_) fun e s' hs => hs
    cases fl with
    | ret u => exact let ⟨v, σ', H', J, rv, q⟩ := hs; ⟨v, H', J.os, J.bare, J.base, J.hok, rv, q⟩
    | next => exact let ⟨σ', H', J, q⟩ := hs; ⟨V.non, H', J.os, J.bare, J.base, J.hok, rfl, q⟩
    | brk => exact let ⟨_, _, _, q⟩ := hs; False.elim q
    | cont => exact let ⟨_, _, _, q⟩ := hs; False.elim q
end
section
variable {X : Cx} {k : Nat} {f : Addr} {fd : FuncData} {ps : List Str} {sp : Sp} {x : Str} {p pos : Pos} {e : Expr} {es : List Expr} {t : TA}
theorem run_fnG {pins : List (Addr × Obj)} {σ : L2.St} {H : Hp} {s : Shared} {Q : VK} {us : List Value} {xs : List V} (F : FnG X.prog X.w X.K X.mg X.base k f fd ps sp) (g : Still X.A) (hr : Room k X.A) (hb : Binds X.K fd ps [])
    (I : Inv X pins σ H s) (r : Vals xs us) (h : sp xs H Q E0) : wpAny (model X.prog X.w) X.A (call (.ref f) us) (EP X pins σ Q) X.xe s := by
  have hl : (us ++ []).length = ps.length := by
    rw [List.append_nil, ← r.length]
    exact F.len _ _ _ _ h
  have hbb := hb s us I.kIn hl
  rw [List.append_nil] at hbb
  refine wpAny_call (codeAny_mono (F.run X.A X.stack s H ⟨us, []⟩ us xs Q E0 g hr I.env0 hbb r h) fun res s' hq => ?_)
  cases res with
  | error e => exact False.elim hq
  | ok fl => cases fl <;> first | exact I.after hq | exact False.elim hq
theorem pe_callG (F : FnG X.prog X.w X.K X.mg X.base k f fd ps sp) (g : Still X.A) (hr : Room k X.A) (hg : Gl X x) (hm : X.mg x = some (.ref f)) (hk : PySem.W.keepIn X.K (.ref f) = true) (hb : Binds X.K fd ps [])
    (ha : PA X (e :: es) t) (hdb : (x == ("__debug__" : Str)) = false) (he : starEach (e :: es) X.env = (false, eval e X.env) :: starEach es X.env) (hpl : (backTo pos (starEach es X.env)).any (·.1) = false) : PE X (.Call (.Name x p) (e :: es) [] pos) (tCall sp [] E0 t) :=
  ⟨fun pins s σ H Q I h => wpAny_Call_Name_kw (ld_glob I hg hm (PySem.W.callWith_K (h₀ := X.base) I.ok.mod.kin hk (thn (ha.run pos pins s σ H _ I h) fun us s1 ⟨xs, H1, I1, r, q⟩ => ⟨I1.kIn, run_fnG F g hr hb I1 r (by have q : sp (xs ++ []) H1 Q E0 := q; rw [List.append_nil] at q; exact q)⟩) he hpl) hdb)⟩
theorem pe_callG0 (F : FnG X.prog X.w X.K X.mg X.base k f fd ps sp) (g : Still X.A) (hr : Room k X.A) (hg : Gl X x) (hm : X.mg x = some (.ref f)) (hk : PySem.W.keepIn X.K (.ref f) = true) (hb : Binds X.K fd ps [])
    (hdb : (x == ("__debug__" : Str)) = false) : PE X (.Call (.Name x p) [] [] pos) (tCall sp [] E0 tNil) :=
  ⟨fun pins s σ H Q I h => wpAny_Call_Name_kw (ld_glob I hg hm (PySem.W.callWith_K0 I.kIn hk (run_fnG (us := []) F g hr hb I .nil h)) hdb)⟩
end
theorem still_caller : Still callerA := by first | rfl | decide
theorem still_deeper {A : Around} (g : Still A) (env : Env) : Still (A.deeper env) := by
  first | exact g | (unfold Still at *; simp [Around.deeper, g]) 
section
variable {P : Program} {w : World} {K : PySem.W.Frag} {mg mb : Str → Option Value}
/-- the law's call over a heap in which at most the script is tracked -/
theorem law_core {k : Nat} {fa a : Addr} {fd : FuncData} {x : Str} {sp : Sp} {s : Shared} {us : List Value} (KX : K.In s.heap) (hns : s.heap.Ns mainGlobals mg) (hb : s.heap.Ns builtinsNs mb) (hbb : ∀ y : Str, y ≠ "__name__" → mb y = bootBuiltins y)
    (hlim : s.heap.NoLimit) (hg : s.gens = #[]) (ha : s.heap.get? a = some { cls := .type "list", data := .seq us.toArray }) (hr : Room k callerA) (F : ∀ base : Heap, K.In base → base.Ns mainGlobals mg → FnG P w K mg base k fa fd [x] sp)
    (bnd : ∀ (z : Shared) (u : Value), BindsTo z fd ⟨[u], []⟩ [(x, u)]) (H : Hp) (hO : Only H) (h : sp [.ref a] H (fun v _ => v = .bl true) E0) (hok : HOk P w H s.heap) (hA : ∀ b, H b ≠ none → b = a) (hK : H a ≠ none → K.lookup a = none) :
    codeAny (model P w) callerA (.call (.ref fa) ⟨[.ref a], []⟩) (fun r s' => r = .ok (.ret (.bool true)) ∧ OldK s.heap s'.heap ∧ s'.os = s.os ∧ AllBare s'.gens) s := by
  have free : ∀ {b : Addr} {o : Obj} {es : Array DictEntry} {n : Nat}, s.heap.get? b = some o → o.data = .dict es n → H b = none := fun {b o es n} e z => Classical.byContradiction fun q => by
    have hb := hA b q
    subst hb
    rw [ha] at e
    cases e
    cases (show Data.seq us.toArray _ = Data.dict es n from z)
  have keep : ∀ {b : Addr} {m : Str → Option Value}, s.heap.Ns b m → (hidT s.heap H).Ns b m := fun {b m} ⟨o, es, n, e, z, r⟩ => ⟨o, es, n, hidT_get e (free e z), z, r⟩
  have inb : K.In (hidT s.heap H) := fun b o e => hidT_get (KX b o e) (Classical.byContradiction fun q => by
    have hb := hA b q
    subst hb
    rw [hK q] at e
    cases e)
  obtain ⟨mc, l1, l2⟩ := hlim
  have env : Env0 P w K mg (hidT s.heap H) callerA [] s H := ⟨rfl, ⟨inb, keep hns, ⟨mb, keep hb, hbb⟩, ⟨mc, keep l1, l2⟩⟩, fun _ _ e => of_hidT e, Nat.le_of_eq (hidT_size _ _), trivial, fun b z => absurd (show b ∈ ([] : List Addr) from z) (by simp), hok, .of_eq hg⟩
  refine codeAny_mono ((F _ inb (keep hns)).run callerA [] s H ⟨[.ref a], []⟩ [.ref a] [.ref a] _ _ still_caller hr env (bnd s (.ref a)) (.cons rfl .nil) h) fun r s' z => ?_
  rcases r with e | fl
  · exact False.elim z
  · cases fl with
    | ret u =>
      obtain ⟨v, H', os, bare, un, hok2, rv, q⟩ := z
      have q : v = .bl true := q
      subst q
      obtain rfl : u = Value.bool true := rv
      refine ⟨rfl, OldK.of_keep fun b o e => ?_, os, bare⟩
      cases hq : H b with
      | none => exact un.keep b o e hq (fun z => absurd (show b ∈ ([] : List Addr) from z) (by simp)) (by simp)
      | some u =>
        rcases hO b with z | ⟨ob, xs, z⟩
        · exact absurd (z.symm.trans hq) (by simp)
        · have e1 := (hok b _ z).1
          have e2 := (hok2 b _ (un.frzs b ob _ z)).1
          exact e2.trans (e1.symm.trans e)
    | next => exact False.elim z
    | brk => exact False.elim z
    | cont => exact False.elim z
theorem law_callG {k : Nat} {fa a : Addr} {fd : FuncData} {x : Str} {sp : Sp} {s : Shared} {us : List Value} {ns : List Int} (KX : K.In s.heap) (hns : s.heap.Ns mainGlobals mg) (hb : s.heap.Ns builtinsNs mb) (hbb : ∀ y : Str, y ≠ "__name__" → mb y = bootBuiltins y)
    (hlim : s.heap.NoLimit) (hg : s.gens = #[]) (ha : s.heap.get? a = some { cls := .type "list", data := .seq us.toArray }) (hi : IntsAre us ns) (hl : ns.length ≤ sizeLine) (hr : Room k callerA) (F : ∀ base : Heap, K.In base → base.Ns mainGlobals mg → FnG P w K mg base k fa fd [x] sp)
    (bnd : ∀ (z : Shared) (u : Value), BindsTo z fd ⟨[u], []⟩ [(x, u)]) (hsp : ∀ H : Hp, Only H → SqL K H a (ns.map V.int) → sp [.ref a] H (fun v _ => v = .bl true) E0) :
    codeAny (model P w) callerA (.call (.ref fa) ⟨[.ref a], []⟩) (fun r s' => r = .ok (.ret (.bool true)) ∧ OldK s.heap s'.heap ∧ s'.os = s.os ∧ AllBare s'.gens) s := by
  have rv := vals_ints hi
  have hlen := hi.length
  cases hk : K.lookup a with
  | some o =>
    obtain rfl : _ = o := Option.some.inj (ha.symm.trans (KX a o hk))
    have hS : SqL K (fun _ => none) a (ns.map V.int) := .inr ⟨_, us.toArray, _, hk, rfl, rfl, rfl, by rw [List.size_toArray, hlen]; exact hl, by simpa using rv⟩
    exact law_core KX hns hb hbb hlim hg ha hr F bnd (fun _ => none) (fun _ => .inl rfl) (hsp _ (fun _ => .inl rfl) hS) (fun b u z => nomatch (show (none : Option HO) = some u from z)) (fun b z => absurd rfl z) fun z => absurd rfl z
  | none =>
    let H1 : Hp := fun b => if b = a then some (.frz { cls := .type "list", data := .seq us.toArray } (.lst (ns.map V.int))) else none
    have at_a : H1 a = some (.frz { cls := .type "list", data := .seq us.toArray } (.lst (ns.map V.int))) := if_pos rfl
    have off : ∀ {b}, b ≠ a → H1 b = none := fun n => if_neg n
    have only : Only H1 := fun b => by
      by_cases z : b = a
      · exact .inr ⟨_, _, by rw [z]; exact at_a⟩
      · exact .inl (off z)
    refine law_core KX hns hb hbb hlim hg ha hr F bnd H1 only (hsp _ only (.inl (.inr ⟨_, at_a⟩))) (fun b u z => ?_) (fun b z => Classical.byContradiction fun n => z (off n)) fun _ => hk
    by_cases n : b = a
    · subst n
      obtain rfl := Option.some.inj (at_a.symm.trans z)
      exact ⟨ha, by rw [List.length_map]; exact hl, us, _, rv, ha⟩
    · rw [off n] at z
      cases z
end
/-- the goal that k_head leaves, from the law's promise -/
theorem walk_ofG {l : PySem.W.OpenLaw} {n k : Nat} {q : Program} {loose : List Str} {XP : (Str → Option Value) → Heap → Prop} {YP : World → Heap → Prop} {d : DefRec} {K : Params → PySem.W.Frag} {sp : World → Sp} {x : Str}
    (hn : l.most = some n) (hn2 : n ≤ sizeLine) (hdf : d.params.defaults = []) (hr : Room k callerA) (hY : ∀ (w : World) (h : Heap), YP w h → (K w.params).In h)
    (F : ∀ (w : World) (mg : Str → Option Value) (fa : Addr) (h : Heap), (K w.params).In h → h.Ns mainGlobals mg → mg d.name = some (.ref fa) → ∃ fd : FuncData, (∀ (z : Shared) (u : Value), BindsTo z fd ⟨[u], []⟩ [(x, u)]) ∧
      ∀ base : Heap, (K w.params).In base → base.Ns mainGlobals mg → FnG l.prog w (K w.params) mg base k fa fd [x] (sp w))
    (hsp : ∀ (w : World) (H : Hp) (a : Addr) (ns : List Int), ns.length ≤ n → Only H → SqL (K w.params) H a (ns.map V.int) → sp w [.ref a] H (fun v _ => v = .bl true) E0) : PySem.W.WalkO q loose XP YP l.row.toRowW d [] (fun f vs => PySem.call f vs) :=
  Att.attach_call hn hdf fun w s0 s1 mg mb fa o pm cd doc a vs ns G Y ho hd hcd hmg hobj hints hlen hg =>
    have KX := hY w _ Y
    let ⟨fd, hb, hF⟩ := F w mg fa _ KX G.T.g hmg
    law_callG KX G.T.g G.T.b G.T.builtins G.T.nolimit hg hobj hints (Nat.le_trans hlen hn2) hr hF hb fun H hO hS => hsp w H a ns hlen hO hS
end PV

set_option Elab.async false
set_option linter.all false
set_option maxRecDepth 100000
set_option maxHeartbeats 4000000
/-! PV5: expressions of the text as E, and that they are worth what evE says. -/
namespace PV
open PySem PySem.Spec PyProof.Rows L2

/-! ### what a text is turned into -/
/-- names by slot; defs known by name; constants of the module -/
structure Cfg where
  N : List Str
  tab : Str → Option Fn
  cst : Str → Option PyData
  /-- module tuples of defs -/
  cut : Str → Option (List Fn)
  /-- dicts may be made -/
  dk : Bool
  /-- slots of dicts, of lists of own lists (told to the compiler alone) -/
  ms : List Nat
  ds : List Nat
abbrev Sc := List (Str × NameKind)
def vis (sc : Sc) (x : Str) : Prop := sc.lookup x = some .local ∨ sc.lookup x = some .cell ∨ sc.lookup x = some .free
def loc (sc : Sc) (x : Str) : Prop := sc.lookup x = some .local ∨ sc.lookup x = some .cell
def gli (sc : Sc) (x : Str) : Prop := sc.lookup x = some .globalImplicit
def biName : BI → Option Str
  | .len => some "len" | .abs => some "abs" | .int => some "int" | .min => some "min" | .max => some "max" | .sum => some "sum" | .sorted => some "sorted" | .list => some "list" | .tuple => some "tuple" | .repr => some "repr"
  | _ => none
def isName : BI → Option Str
  | .isInt => some "int" | .isBool => some "bool" | .isList => some "list" | .isTuple => some "tuple" | .isStr => some "str"
  | _ => none
def builtinsUsed : List Str := ["len", "abs", "int", "min", "max", "sum", "sorted", "list", "tuple", "isinstance", "bool", "str", "range", "repr", "set"]
def noStar : Expr → Bool
  | .Starred _ _ => false
  | _ => true
def noSlice : Expr → Bool
  | .Slice _ _ _ _ => false
  | _ => true
def noSet : Expr → Bool
  | .Set _ _ _ => false
  | _ => true
def notCall : Expr → Bool
  | .Call _ _ _ _ => false
  | _ => true
def gslots : G → List Nat
  | .nm i => [i]
  | .two a b => gslots a ++ gslots b
  | .thr a b c => gslots a ++ gslots b ++ gslots c
  | .fou a b c d => gslots a ++ gslots b ++ gslots c ++ gslots d
/-- targets -/
inductive CG (c : Cfg) (sc : Sc) : Expr → G → Prop
  | nm {x pos i} : c.N[i]? = some x → loc sc x → CG c sc (.Name x pos) (.nm i)
  | two {a b k pos ga gb} : CG c sc a ga → CG c sc b gb → CG c sc (.Tuple [a, b] k pos) (.two ga gb)
  | thr {a b d k pos ga gb gd} : CG c sc a ga → CG c sc b gb → CG c sc d gd → CG c sc (.Tuple [a, b, d] k pos) (.thr ga gb gd)
  | fou {a b d e k pos ga gb gd ge} : CG c sc a ga → CG c sc b gb → CG c sc d gd → CG c sc e ge → CG c sc (.Tuple [a, b, d, e] k pos) (.fou ga gb gd ge)
mutual
inductive CE (c : Cfg) : Sc → Expr → E → Prop
  | name {sc x pos i} : c.N[i]? = some x → vis sc x → (x == ("__debug__" : Str)) = false → (x == ("__classdict__" : Str)) = false → CE c sc (.Name x pos) (.v i)
  | const {sc x pos d} : gli sc x → c.cst x = some d → (x == ("__debug__" : Str)) = false → CE c sc (.Name x pos) (.c d)
  | int {sc i j pos} : CE c sc (.Constant (.int i) j pos) (.c (.int i))
  | bool {sc b j pos} : CE c sc (.Constant (.bool b) j pos) (.c (.bool b))
  | none {sc j pos} : CE c sc (.Constant .none j pos) (.c .none)
  | str {sc x j pos} : CE c sc (.Constant (.str x) j pos) (.c (.str x))
  | bin {sc o a b pos x y} : CE c sc a x → CE c sc b y → CE c sc (.BinOp a (opOf o) b pos) (.bin o x y)
  | neg {sc a pos x} : CE c sc a x → CE c sc (.UnaryOp .USub a pos) (.neg x)
  | cmp {sc o a b pos x y} : CE c sc a x → CE c sc b y → behindInMarks (copOf o) b = false → CE c sc (.Compare a [copOf o] [b] pos) (.cmp o x y)
  | chain {sc o p a b d pos x y z} : CE c sc a x → CE c sc b y → CE c sc d z → behindInMarks (copOf p) d = false → CE c sc (.Compare a [copOf o, copOf p] [b, d] pos) (.chain o p x y z)
  | and {sc a b es pos x} : CA c sc (a :: b :: es) pos x → CE c sc (.BoolOp .And (a :: b :: es) pos) x
  | or {sc a b es pos x} : CO c sc (a :: b :: es) pos x → CE c sc (.BoolOp .Or (a :: b :: es) pos) x
  | not {sc a pos x} : CE c sc a x → CE c sc (.UnaryOp .Not a pos) (.not x)
  | ite {sc t a b pos z x y} : CE c sc t z → CE c sc a x → CE c sc b y → CE c sc (.IfExp t a b pos) (.ite z x y)
  | tup {sc es k pos xs} : CEs c sc es xs → CE c sc (.Tuple es k pos) (.tup xs)
  | lst {sc es pos xs} : CEs c sc es xs → CE c sc (.List es pos) (.lst xs)
  | ix {sc a b pos x y} : CE c sc a x → CE c sc b y → noSlice b = true → CE c sc (.Subscript a b pos) (.ix x y)
  | sl {sc a lo hi p pos x l h} : CE c sc a x → CP c sc lo l → CP c sc hi h → CE c sc (.Subscript a (.Slice lo hi none p) pos) (.sl x l h)
  | call {sc f p e es pos F xs} : gli sc f → c.tab f = some F → (f == ("__debug__" : Str)) = false → CEs c sc (e :: es) xs → CE c sc (.Call (.Name f p) (e :: es) [] pos) (.call F xs)
  | call0 {sc f p pos F} : gli sc f → c.tab f = some F → (f == ("__debug__" : Str)) = false → CE c sc (.Call (.Name f p) [] [] pos) (.call F .nil)
  | rev {sc e k p1 p2 p3 pos x} : CE c sc e x → CE c sc (.Subscript e (.Slice none none (some (.UnaryOp .USub (.Constant (.int 1) k p1) p2)) p3) pos) (.rev x)
  | rngl1 {sc p p2 e pos q x} : gli sc "list" → gli sc "range" → CE c sc e x → noStar e = true → CE c sc (.Call (.Name "list" p) [.Call (.Name "range" p2) [e] [] q] [] pos) (.rngl (.cons x .nil))
  | rngl2 {sc p p2 e f pos q x y} : gli sc "list" → gli sc "range" → CE c sc e x → noStar e = true → CE c sc f y → noStar f = true → CE c sc (.Call (.Name "list" p) [.Call (.Name "range" p2) [e, f] [] q] [] pos) (.rngl (.cons x (.cons y .nil)))
  | count {sc o e apos cpos x y} : CE c sc o x → CE c sc e y → (apos.endLine == cpos.line) = true → notCall o = true → noStar o = true → noStar e = true → CE c sc (.Call (.Attribute o "count" apos) [e] [] cpos) (.bi .count (.cons x (.cons y .nil)))
  | bi {sc b f p e es pos xs} : gli sc f → biName b = some f → CEs c sc (e :: es) xs → CE c sc (.Call (.Name f p) (e :: es) [] pos) (.bi b xs)
  | sset {sc p p2 e pos q x} : gli sc "sorted" → gli sc "set" → CE c sc e x → noStar e = true → CE c sc (.Call (.Name "sorted" p) [.Call (.Name "set" p2) [e] [] q] [] pos) (.bi .sortedSet (.cons x .nil))
  | is {sc b T p p2 e pos x} : gli sc "isinstance" → gli sc T → isName b = some T → CE c sc e x → noStar e = true → CE c sc (.Call (.Name "isinstance" p) [e, .Name T p2] [] pos) (.bi b (.cons x .nil))
  | index {sc o e apos cpos x y} : CE c sc o x → CE c sc e y → (apos.endLine == cpos.line) = true → notCall o = true → noStar o = true → noStar e = true → CE c sc (.Call (.Attribute o "index" apos) [e] [] cpos) (.bi .index (.cons x (.cons y .nil)))
  | comp {sc elt tg iter ifs scope pos own g it t x} : CI c sc iter it → CG c scope.names tg g → CC c scope.names ifs t → CE c scope.names elt x → blkC c.N ⟨.function, sc, false, false, []⟩ scope own = true →
      (gslots g).all (fun i => (own.map (·.2)).contains i) = true → noSet iter = true → CE c sc (.ListComp elt [⟨tg, iter, ifs, 0⟩] scope pos) (.comp (own.map (·.2)) g it t x)
  | comp2 {sc elt tg iter ifs tg1 iter1 ifs1 scope pos own g it t g1 it1 t1 x} {own1 : List Nat} : CI c sc iter it → CG c scope.names tg g → CC c scope.names ifs t → CI c scope.names iter1 it1 → CG c scope.names tg1 g1 → CC c scope.names ifs1 t1 → CE c scope.names elt x →
      blkC c.N ⟨.function, sc, false, false, []⟩ scope own = true → (gslots g).all (fun i => (own.map (·.2)).contains i) = true → (gslots g1).all (fun i => own1.contains i) = true → own1.all (fun i => (own.map (·.2)).contains i) = true →
      noSet iter = true → noSet iter1 = true → CE c sc (.ListComp elt [⟨tg, iter, ifs, 0⟩, ⟨tg1, iter1, ifs1, 0⟩] scope pos) (.comp2 (own.map (·.2)) g it t own1 g1 it1 t1 x)
  | ix2 {sc x px p1 pos i a b xa xb} : c.N[i]? = some x → vis sc x → (x == ("__debug__" : Str)) = false → (x == ("__classdict__" : Str)) = false → CE c sc a xa → CE c sc b xb → noSlice a = true → noSlice b = true → CE c sc (.Subscript (.Subscript (.Name x px) a p1) b pos) (.ix2 i xa xb)
  | mget {sc x px pos i a xa} : c.dk = true → c.N[i]? = some x → vis sc x → (x == ("__debug__" : Str)) = false → (x == ("__classdict__" : Str)) = false → CE c sc a xa → noSlice a = true → CE c sc (.Subscript (.Name x px) a pos) (.mget i xa)
  | min {sc x px pos i a xa} : c.dk = true → c.N[i]? = some x → vis sc x → (x == ("__debug__" : Str)) = false → (x == ("__classdict__" : Str)) = false → CE c sc a xa → CE c sc (.Compare a [.In] [.Name x px] pos) (.min i xa)
  | mnot {sc x px pos i a xa} : c.dk = true → c.N[i]? = some x → vis sc x → (x == ("__debug__" : Str)) = false → (x == ("__classdict__" : Str)) = false → CE c sc a xa → CE c sc (.Compare a [.NotIn] [.Name x px] pos) (.mnot i xa)
  | callT {sc x px p1 pos fs a e es xa xs} : gli sc x → c.cut x = some fs → (x == ("__debug__" : Str)) = false → CE c sc a xa → noSlice a = true → CEs c sc (e :: es) xs → CE c sc (.Call (.Subscript (.Name x px) a p1) (e :: es) [] pos) (.callT fs xa xs)
/-- and, by the right -/
inductive CA (c : Cfg) : Sc → List Expr → Pos → E → Prop
  | one {sc a pos x} : CE c sc a x → CA c sc [a] pos x
  | cons {sc a b es pos x y} : CE c sc a x → CA c sc (b :: es) pos y → CA c sc (a :: b :: es) pos (.and x y)
inductive CO (c : Cfg) : Sc → List Expr → Pos → E → Prop
  | one {sc a pos x} : CE c sc a x → CO c sc [a] pos x
  | cons {sc a b es pos x y} : CE c sc a x → CO c sc (b :: es) pos y → CO c sc (a :: b :: es) pos (.or x y)
inductive CEs (c : Cfg) : Sc → List Expr → Es → Prop
  | nil {sc} : CEs c sc [] .nil
  | cons {sc e es x xs} : CE c sc e x → noStar e = true → CEs c sc es xs → CEs c sc (e :: es) (.cons x xs)
inductive CP (c : Cfg) : Sc → Option Expr → Oe → Prop
  | no {sc} : CP c sc none .no
  | yes {sc e x} : CE c sc e x → CP c sc (some e) (.yes x)
inductive CC (c : Cfg) : Sc → List Expr → Oe → Prop
  | no {sc} : CC c sc [] .no
  | yes {sc e x} : CE c sc e x → CC c sc [e] (.yes x)
inductive CI (c : Cfg) : Sc → Expr → I → Prop
  | rng {sc p e es pos xs} : gli sc "range" → CEs c sc (e :: es) xs → es.length ≤ 2 → CI c sc (.Call (.Name "range" p) (e :: es) [] pos) (.rng xs)
  | seq {sc e x} : CE c sc e x → CI c sc e (.seq x)
end
end PV

set_option Elab.async false
set_option linter.all false
set_option maxRecDepth 100000
set_option maxHeartbeats 4000000
/-! PV6: expressions are worth what evE says. -/
namespace PV
open PySem PySem.Spec PyProof.Rows L2

/-- what a def promises: the value of a plain function -/
def spF (K : PySem.W.Frag) (f : Fn) : Sp := fun vs H Q _ => ∃ (P : Addr → Prop) (ds : List PyData) (r : R), (∀ a, P a → ∃ o, H a = some o ∧ OO o) ∧ RpA K H P vs ds ∧ f ds = some r ∧ ∀ v H', Same H H' → RpR K H H' P false v r → Q v H'
structure Good (c : Cfg) (k : Nat) (sc : Sc) (X : Cx) : Prop where
  hN : X.N = c.N
  nd : c.N.Nodup
  calm : X.calm = true
  kind : X.env.scope.kind = .function
  lc : ∀ x, sc.lookup x = some .local → X.env.scope.names.lookup x = some .local
  cl : ∀ x, sc.lookup x = some .cell → X.env.scope.names.lookup x = some .cell ∧ X.fn x = true
  fr : ∀ x, sc.lookup x = some .free → X.env.scope.names.lookup x = some .cell ∨ X.env.scope.names.lookup x = some .free
  gl : ∀ x, sc.lookup x = some .globalImplicit → Gl X x
  still : Still X.A
  room : Room k X.A
  pass : PassesOwn (model X.prog X.w) X.A X.env X.xe
  fns : ∀ x f, c.tab x = some f → ∃ a fd ps, X.mg x = some (.ref a) ∧ PySem.W.keepIn X.K (.ref a) = true ∧ Binds X.K fd ps [] ∧ FnG X.prog X.w X.K X.mg X.base k a fd ps (spF X.K f)
  blt : ∀ x ∈ builtinsUsed, X.mg x = none
  csts : ∀ x d, c.cst x = some d → ∃ u v, X.mg x = some u ∧ RelV v u ∧ ∀ H O, Rp X.K H O v d
  cuts : ∀ x fs, c.cut x = some fs → ∃ (a : Addr) (gs : List Addr), X.mg x = some (.ref a) ∧ Kt X.K a (gs.map V.ref) ∧ gs.length = fs.length ∧ ∀ (j : Nat) g f, gs[j]? = some g → fs[j]? = some f → PySem.W.keepIn X.K (.ref g) = true ∧ ∃ fd ps, Binds X.K fd ps [] ∧ FnG X.prog X.w X.K X.mg X.base k g fd ps (spF X.K f)
  key : c.dk = true → ∀ a (ns : List Int), ¬ Kt X.K a (ns.map V.int)

section
variable {X : Cx}
theorem PE.imp {e : Expr} {t t' : TE} (h : PE X e t) (i : ∀ σ H Q, t' σ H Q → t σ H Q) : PE X e t' := ⟨fun pins s σ H Q I q => h.run pins s σ H Q I (i σ H Q q)⟩
theorem PT.imp {e : Expr} {t t' : TT} (h : PT X e t) (i : ∀ σ H Q, t' σ H Q → t σ H Q) : PT X e t' := ⟨fun pins s σ H Q I q => h.run pins s σ H Q I (i σ H Q q)⟩
theorem PW.imp {e : Expr} {t t' : TT} (h : PW X e t) (i : ∀ σ H Q, t' σ H Q → t σ H Q) : PW X e t' := ⟨fun w pins s σ H Q I q => h.run w pins s σ H Q I (i σ H Q q)⟩
theorem PTs.imp {e : List Expr} {t t' : TT} (h : PTs X e t) (i : ∀ σ H Q, t' σ H Q → t σ H Q) : PTs X e t' := ⟨fun pins s σ H Q I q => h.run pins s σ H Q I (i σ H Q q)⟩
theorem PA.imp {e : List Expr} {t t' : TA} (h : PA X e t) (i : ∀ σ H Q, t' σ H Q → t σ H Q) : PA X e t' := ⟨fun p pins s σ H Q I q => h.run p pins s σ H Q I (i σ H Q q)⟩
theorem PO.imp {e : Option Expr} {t t' : TO} (h : PO X e t) (i : ∀ σ H Q, t' σ H Q → t σ H Q) : PO X e t' := ⟨fun pins s σ H Q I q => h.run pins s σ H Q I (i σ H Q q)⟩
theorem PI.imp {tg e : Expr} {t t' : TI} (h : PI X tg e t) (i : ∀ σ H Q, t' σ H Q → t σ H Q) : PI X tg e t' := ⟨fun pins s σ H Q I q => h.run pins s σ H Q I (i σ H Q q)⟩
theorem PG.imp {tg : Expr} {t t' : TG} (h : PG X tg t) (i : ∀ v σ H Q, t' v σ H Q → t v σ H Q) : PG X tg t' := ⟨fun pins s σ H v u Q I r q => h.run pins s σ H v u Q I r (i v σ H Q q)⟩
end

/-! ### readings -/
abbrev Set0 := Addr → Prop
/-- as Rp, or the items of a list that is no caller's -/
def RpBO (K : PySem.W.Frag) (H : Hp) (O P : Set0) (v : V) (d : PyData) : Prop :=
  Rp K H P v d ∨ ∃ a xs ds, v = .ref a ∧ d = .list ds ∧ H a = some (.lst xs) ∧ ¬ O a ∧ RpA K H P xs ds
def RpX (K : PySem.W.Frag) (H0 H : Hp) (O P : Set0) (b : Bool) (v : V) : R → Prop
  | (true, d) => ∃ a xs ds, v = .ref a ∧ d = .list ds ∧ H a = some (.lst xs) ∧ H0 a = none ∧ RpA K H (fun x => P x ∨ x = a) xs ds
  | (false, d) => if b then RpBO K H O P v d else Rp K H P v d
def tE (K : PySem.W.Frag) (x : E) (b : Bool) : TE := fun σ H Q => ∃ (O : Set0) (H0 : Hp) (A : Nat → Option Addr) (ρ : Sl) (r : R), Ok K O H0 A H σ ρ ∧ evE x b ρ = some r ∧ ∀ v H', Same H H' → RpX K H H' O (Ow O A) b v r → Q v H'
def tT (K : PySem.W.Frag) (x : E) : TT := fun σ H Q => ∃ (O : Set0) (H0 : Hp) (A : Nat → Option Addr) (ρ : Sl) (k : Bool), Ok K O H0 A H σ ρ ∧ evT x ρ = some k ∧ ∀ H', Same H H' → Q k H'
def tEs (K : PySem.W.Frag) (xs : Es) (b : Bool) : TA := fun σ H Q => ∃ (O : Set0) (H0 : Hp) (A : Nat → Option Addr) (ρ : Sl) (ds : List PyData), Ok K O H0 A H σ ρ ∧ evEs xs b ρ = some ds ∧
  ∀ vs H', Same H H' → (if b then RpBs K H' (Ow O A) vs ds else RpA K H' (Ow O A) vs ds) → Q vs H'
def tP (K : PySem.W.Frag) (x : Oe) : TO := fun σ H Q => ∃ (O : Set0) (H0 : Hp) (A : Nat → Option Addr) (ρ : Sl) (l : Option Int), Ok K O H0 A H σ ρ ∧ evP x ρ = some l ∧ ∀ H', Same H H' → Q l H'
def tC (K : PySem.W.Frag) (x : Oe) : TT := fun σ H Q => ∃ (O : Set0) (H0 : Hp) (A : Nat → Option Addr) (ρ : Sl) (k : Bool), Ok K O H0 A H σ ρ ∧ evC x ρ = some k ∧ ∀ H', Same H H' → Q k H'
/-- J walks the items ds, in every heap that bears it -/
def Wk (K : PySem.W.Frag) (J : It) (Kp : Hp → Prop) (H1 : Hp) (P : Set0) (ds : List PyData) : Prop :=
  ∀ H, Kp H → ∀ i : Nat, (∀ d, ds[i]? = some d → J.go i H ∧ ∀ x H', J.yld i H x H' → H' = H ∧ Rp K H1 P x d) ∧ (ds.length ≤ i → J.stop i H)
/-- what must stay while it is walked -/
def KpOf (b : Bool) (H1 : Hp) (O P : Set0) : Hp → Prop := fun H => ∀ a o, H1 a = some o → ¬ (if b then O a else P a) → H a = some o
def tI (K : PySem.W.Frag) (it : I) (b : Bool) : TI := fun σ H R => ∃ (O : Set0) (H0 : Hp) (A : Nat → Option Addr) (ρ : Sl) (ds : List PyData), Ok K O H0 A H σ ρ ∧ evI it b ρ = some ds ∧
  ∀ J H', Same H H' → ds.length ≤ sizeLine → Wk K J (KpOf b H' O (Ow O A)) H' (Ow O A) ds → R J H'
def tG (K : PySem.W.Frag) (g : G) : TG := fun v σ H Q => ∃ (O : Set0) (H0 : Hp) (A : Nat → Option Addr) (ρ ρ' : Sl) (d : PyData), Ok K O H0 A H σ ρ ∧ Rp K H (Ow O A) v d ∧ asg g d ρ = some ρ' ∧
  ∀ σ' , Ok K O H0 A H σ' ρ' → (∀ vs : List Nat, (∀ i ∈ gslots g, i ∈ vs) → wipe σ' vs = wipe σ vs) → Q σ' H

section
variable {K : PySem.W.Frag} {O P : Set0} {H0 H H1 H2 H' : Hp} {A : Nat → Option Addr} {σ : L2.St} {ρ : Sl}
theorem RpX.up {b : Bool} {v : V} {r : R} (s : Same H H1) (h : RpX K H1 H2 O P b v r) : RpX K H H2 O P b v r := by
  obtain ⟨fl, d⟩ := r
  cases fl with
  | false => exact h
  | true =>
    obtain ⟨a, xs, ds, e1, e2, e3, e4, h⟩ := h
    exact ⟨a, xs, ds, e1, e2, e3, s.free e4, h⟩
theorem RpR.up {b : Bool} {v : V} {r : R} (s : Same H H1) (h : RpR K H1 H2 P b v r) : RpR K H H2 P b v r := by
  obtain ⟨fl, d⟩ := r
  cases fl with
  | false => exact h
  | true =>
    obtain ⟨a, xs, ds, e1, e2, e3, e4, h⟩ := h
    exact ⟨a, xs, ds, e1, e2, e3, s.free e4, h⟩
theorem RpR.toX {b : Bool} {v : V} {r : R} (h : RpR K H H1 P false v r) : RpX K H H1 O P b v r := by
  obtain ⟨fl, d⟩ := r
  cases fl with
  | true => exact h
  | false =>
    cases b with
    | false => exact h
    | true => exact .inl h
theorem RpX.toR {v : V} {r : R} (h : RpX K H H1 O P false v r) : RpR K H H1 P false v r := by
  obtain ⟨fl, d⟩ := r
  cases fl with
  | true => exact h
  | false => exact h
theorem RpX.bor {b : Bool} {v : V} {r : R} (h : RpX K H H1 O P false v r) : RpX K H H1 O P b v r := h.toR.toX
theorem RpX.sh {b : Bool} {v : V} {d : PyData} (h : Rp K H1 P v d) : RpX K H H1 O P b v (false, d) := RpR.toX (b := b) (r := (false, d)) h
theorem RpBO.weak {v : V} {d : PyData} (h : RpBO K H O P v d) : RpB K H P v d := by
  rcases h with h | ⟨a, xs, ds, e1, e2, e3, e4, h⟩
  · exact .inl h
  · exact .inr ⟨a, xs, ds, e1, e2, e3, h⟩
theorem bind_some {α β : Type} {x : Option α} {f : α → Option β} {r : β} (h : Option.bind x f = some r) : ∃ a, x = some a ∧ f a = some r := by
  cases x with
  | none => cases h
  | some a => exact ⟨a, rfl, h⟩
theorem map_some {α β : Type} {x : Option α} {f : α → β} {r : β} (h : Option.map f x = some r) : ∃ a, x = some a ∧ f a = r := by
  cases x with
  | none => cases h
  | some a => exact ⟨a, rfl, Option.some.inj h⟩
/-- lists new, or lent, or shared, to be read -/
theorem rpBO_of {b : Bool} (ok : Ok K O H0 A H σ ρ) (s : Same H H') {v : V} {r : R} (h : RpX K H H' O (Ow O A) b v r) : RpBO K H' O (Ow O A) v r.2 := by
  obtain ⟨fl, d⟩ := r
  cases fl with
  | true =>
    obtain ⟨a, xs, ds, e1, e2, e3, e4, h⟩ := h
    exact .inr ⟨a, xs, ds, e1, e2, e3, fun z => ok.fresh e4 (.inl z), h.less fun x z => .inl z⟩
  | false =>
    cases b with
    | false => exact .inl h
    | true => exact h
theorem rpB_of {b : Bool} (ok : Ok K O H0 A H σ ρ) (s : Same H H') {v : V} {r : R} (h : RpX K H H' O (Ow O A) b v r) : RpB K H' (Ow O A) v r.2 := (rpBO_of ok s h).weak
/-- a slot's value -/
theorem slot_val (ok : Ok K O H0 A H σ ρ) {i : Nat} {b : Bool} {r : R} (e : evE (.v i) b ρ = some r) : ∃ v, σ[i]? = some (some v) ∧ RpX K H H O (Ow O A) b v r := by
  simp only [evE] at e
  cases q : ρ[i]? with
  | none => rw [q] at e; cases e
  | some o =>
    cases o with
    | none => rw [q] at e; cases e
    | some p =>
      obtain ⟨fl, d⟩ := p
      rw [q] at e
      obtain ⟨v, e1, h⟩ := ok.val i _ q
      refine ⟨v, e1, ?_⟩
      cases fl with
      | false =>
        cases e
        exact RpX.sh h
      | true =>
        cases d with
        | list ds =>
          cases b with
          | false => cases e
          | true =>
            cases e
            obtain ⟨a, q1, q2, xs, q4, h⟩ := h
            refine .inr ⟨a, xs, ds, q2, rfl, q4, fun z => ?_, h⟩
            obtain ⟨ys, z, -⟩ := ok.odom a z
            rw [ok.new i a q1] at z; cases z
        | _ => cases e
theorem KpOf.self {b : Bool} : KpOf b H O P H := fun a o e _ => e
theorem KpOf.same {b : Bool} (s : Same H H1) : KpOf b H O P H1 := fun a o e _ => s a o e
end

/-! ### targets -/
theorem wipe_set {i : Nat} {x : Option V} : ∀ {σ : L2.St} {vs : List Nat}, i ∈ vs → wipe (σ.set i x) vs = wipe σ vs
  | σ, [], h => absurd h (by simp)
  | σ, v :: vs, h => by
    show (wipe (σ.set i x) vs).set v none = (wipe σ vs).set v none
    by_cases hi : i ∈ vs
    · rw [wipe_set hi]
    · have e : i = v := by
        rcases List.mem_cons.mp h with e | e
        · exact e
        · exact absurd e hi
      subst e
      have : wipe (σ.set i x) vs = (wipe σ vs).set i x := by
        clear h
        induction vs with
        | nil => rfl
        | cons u us ih =>
          have h1 : u ≠ i := fun z => hi (by rw [z]; exact List.mem_cons_self)
          show (wipe (σ.set i x) us).set u none = ((wipe σ us).set u none).set i x
          rw [ih fun z => hi (List.mem_cons_of_mem _ z), List.set_comm _ _ h1.symm]
      rw [this, List.set_set]
section
variable {X : Cx} {c : Cfg} {k : Nat} {sc : Sc}
theorem Good.loc (g : Good c k sc X) {x : Str} (h : PV.loc sc x) : Loc X.env.scope x ∧ (X.fn x = true ∨ X.env.scope.names.lookup x = some .local) := by
  rcases h with h | h
  · exact ⟨.inl (g.lc x h), .inr (g.lc x h)⟩
  · exact ⟨.inr (g.cl x h).1, .inl (g.cl x h).2⟩
theorem Good.vis (g : Good c k sc X) {x : Str} (h : PV.vis sc x) : Vis X.env.scope x := by
  rcases h with h | h | h
  · exact .inl (g.lc x h)
  · exact .inr (.inl (g.cl x h).1)
  · exact .inr (g.fr x h)
theorem noStarG {e : Expr} {g : G} (h : CG c sc e g) : noStar e = true := by cases h <;> rfl
theorem assignEach_cons {e : Expr} {es : List Expr} {env : Env} (h : noStar e = true) : assignEach (e :: es) env = (false, assign e env) :: assignEach es env := by
  cases e <;> first | rfl | cases h
theorem pgs_cons' {e : Expr} {es : List Expr} {t : TG} {u : TGs} (h1 : PG X e t) (h2 : PGs X es u) (h : noStar e = true) : PGs X (e :: es) (gCons t u) :=
  pgs_cons h1 h2 (by rw [assignEach_cons h]; rfl)
/-- a tuple or a list, taken apart -/
theorem pg_seq {es : List Expr} {kk n : Nat} {pos : Pos} {t : TGs} (hc : X.calm = true) (h : PGs X es t) (hn : (assignEach es X.env).length = n) (hst : (assignEach es X.env).findIdx? (·.1) = none) :
    PG X (.Tuple es kk pos) (fun v σ H Q => gTup X.K n t v σ H Q ∨ gLst X.K n t v σ H Q) :=
  ⟨fun pins s σ H v u Q I r hw => hw.elim (fun z => (pg_tup hc h hn hst).run pins s σ H v u Q I r z) fun z => (pg_lst hc h hn hst).run pins s σ H v u Q I r z⟩
theorem rp_items {K : PySem.W.Frag} {H : Hp} {P : Set0} {v : V} {d : PyData} {ds : List PyData} (r : Rp K H P v d) (e : itemsOf d = some ds) : ∃ p xs, v = .ref p ∧ (SqT K H p xs ∨ SqL K H p xs) ∧ RpA K H P xs ds := by
  cases d <;> cases e
  · obtain ⟨p, xs, rfl, h1, h2⟩ := RpB.list (.inl r)
    exact ⟨p, xs, rfl, .inr (.inl h1), h2⟩
  · obtain ⟨p, xs, rfl, h1, h2⟩ := RpB.tuple (.inl r)
    exact ⟨p, xs, rfl, .inl h1, h2⟩
theorem asg2 {a b : G} {d : PyData} {ρ ρ' : Sl} (e : asg (.two a b) d ρ = some ρ') : ∃ x y ρ1, itemsOf d = some [x, y] ∧ asg a x ρ = some ρ1 ∧ asg b y ρ1 = some ρ' := by
  have fin : ∀ ds : List PyData, itemsOf d = some ds → (∃ x y, ds = [x, y]) → ∃ x y ρ1, itemsOf d = some [x, y] ∧ asg a x ρ = some ρ1 ∧ asg b y ρ1 = some ρ' := by
    rintro ds hi ⟨x, y, rfl⟩
    have e : ((asg a x ρ).bind fun ρ1 => asg b y ρ1) = some ρ' := by cases d <;> cases hi <;> exact e
    obtain ⟨ρ1, e1, e2⟩ := bind_some e
    exact ⟨x, y, ρ1, hi, e1, e2⟩
  cases d <;> try (exact absurd e (by simp [asg]))
  all_goals
    rename_i ds
    refine fin ds rfl ?_
    match ds, e with
    | [x, y], _ => exact ⟨x, y, rfl⟩
    | [], e => exact absurd e (by simp [asg])
    | [x], e => exact absurd e (by simp [asg])
    | x :: y :: z :: u, e => exact absurd e (by simp [asg])
theorem asg3 {a b c : G} {d : PyData} {ρ ρ' : Sl} (e : asg (.thr a b c) d ρ = some ρ') : ∃ x y z ρ1 ρ2, itemsOf d = some [x, y, z] ∧ asg a x ρ = some ρ1 ∧ asg b y ρ1 = some ρ2 ∧ asg c z ρ2 = some ρ' := by
  have fin : ∀ ds : List PyData, itemsOf d = some ds → (∃ x y z, ds = [x, y, z]) → ∃ x y z ρ1 ρ2, itemsOf d = some [x, y, z] ∧ asg a x ρ = some ρ1 ∧ asg b y ρ1 = some ρ2 ∧ asg c z ρ2 = some ρ' := by
    rintro ds hi ⟨x, y, z, rfl⟩
    have e : ((asg a x ρ).bind fun ρ1 => (asg b y ρ1).bind fun ρ2 => asg c z ρ2) = some ρ' := by cases d <;> cases hi <;> exact e
    obtain ⟨ρ1, e1, e2⟩ := bind_some e
    obtain ⟨ρ2, e2, e3⟩ := bind_some e2
    exact ⟨x, y, z, ρ1, ρ2, hi, e1, e2, e3⟩
  cases d <;> try (exact absurd e (by simp [asg]))
  all_goals
    rename_i ds
    refine fin ds rfl ?_
    match ds, e with
    | [x, y, z], _ => exact ⟨x, y, z, rfl⟩
    | [], e => exact absurd e (by simp [asg])
    | [x], e => exact absurd e (by simp [asg])
    | [x, y], e => exact absurd e (by simp [asg])
    | x :: y :: z :: u :: w, e => exact absurd e (by simp [asg])
theorem asg4 {a b c f : G} {d : PyData} {ρ ρ' : Sl} (e : asg (.fou a b c f) d ρ = some ρ') : ∃ x y z u ρ1 ρ2 ρ3, itemsOf d = some [x, y, z, u] ∧ asg a x ρ = some ρ1 ∧ asg b y ρ1 = some ρ2 ∧ asg c z ρ2 = some ρ3 ∧ asg f u ρ3 = some ρ' := by
  have fin : ∀ ds : List PyData, itemsOf d = some ds → (∃ x y z u, ds = [x, y, z, u]) → ∃ x y z u ρ1 ρ2 ρ3, itemsOf d = some [x, y, z, u] ∧ asg a x ρ = some ρ1 ∧ asg b y ρ1 = some ρ2 ∧ asg c z ρ2 = some ρ3 ∧ asg f u ρ3 = some ρ' := by
    rintro ds hi ⟨x, y, z, u, rfl⟩
    have e : ((asg a x ρ).bind fun ρ1 => (asg b y ρ1).bind fun ρ2 => (asg c z ρ2).bind fun ρ3 => asg f u ρ3) = some ρ' := by cases d <;> cases hi <;> exact e
    obtain ⟨ρ1, e1, e2⟩ := bind_some e
    obtain ⟨ρ2, e2, e3⟩ := bind_some e2
    obtain ⟨ρ3, e3, e4⟩ := bind_some e3
    exact ⟨x, y, z, u, ρ1, ρ2, ρ3, hi, e1, e2, e3, e4⟩
  cases d <;> try (exact absurd e (by simp [asg]))
  all_goals
    rename_i ds
    refine fin ds rfl ?_
    match ds, e with
    | [x, y, z, u], _ => exact ⟨x, y, z, u, rfl⟩
    | [], e => exact absurd e (by simp [asg])
    | [x], e => exact absurd e (by simp [asg])
    | [x, y], e => exact absurd e (by simp [asg])
    | [x, y, z], e => exact absurd e (by simp [asg])
    | x :: y :: z :: u :: w :: w', e => exact absurd e (by simp [asg])
theorem soundG (gd : Good c k sc X) : ∀ {e : Expr} {g : G}, CG c sc e g → PG X e (tG X.K g)
  | _, _, .nm (i := i) h1 h2 => by
    refine PG.imp (pg_name (i := i) (by rw [gd.hN]; exact gd.nd) (by rw [gd.hN]; exact h1) (gd.loc h2).1 (gd.loc h2).2) fun v σ H Q ⟨O, H0, A, ρ, ρ', d, ok, r, e, q⟩ => ?_
    cases e
    exact q _ (ok.set r) fun vs hv => wipe_set (hv i (by simp [gslots]))
  | _, _, .two (a := a) (b := b) (ga := ga) (gb := gb) ha hb => by
    have na := noStarG ha
    have nb := noStarG hb
    have e0 : assignEach [a, b] X.env = [(false, assign a X.env), (false, assign b X.env)] := by rw [assignEach_cons na, assignEach_cons nb]; rfl
    refine PG.imp (pg_seq (n := 2) gd.calm (pgs_cons' (soundG gd ha) (pgs_cons' (soundG gd hb) pgs_nil nb) na) (by rw [e0]; rfl) (by rw [e0]; rfl)) fun v σ H Q ⟨O, H0, A, ρ, ρ', d, ok, r, e, q⟩ => ?_
    obtain ⟨x, y, ρ1, hi, e1, e2⟩ := asg2 e
    obtain ⟨p, xs, rfl, h1, h2⟩ := rp_items r hi
    cases h2 with
    | cons r1 t =>
      cases t with
      | cons r2 t =>
        cases t
        rcases h1 with h1 | h1
        · left
          refine ⟨p, _, rfl, h1, rfl, _, _, rfl, ⟨O, H0, A, ρ, ρ1, x, ok, r1, e1, fun σ1 ok1 w1 => ⟨_, _, rfl, ⟨O, H0, A, ρ1, ρ', y, ok1, r2, e2, fun σ2 ok2 w2 => ⟨rfl, q σ2 ok2 fun vs hv => ?_⟩⟩⟩⟩⟩
          rw [w2 vs fun i hi => hv i (by simp [gslots, hi]), w1 vs fun i hi => hv i (by simp [gslots, hi])]
        · right
          refine ⟨p, _, rfl, h1, rfl, _, _, rfl, ⟨O, H0, A, ρ, ρ1, x, ok, r1, e1, fun σ1 ok1 w1 => ⟨_, _, rfl, ⟨O, H0, A, ρ1, ρ', y, ok1, r2, e2, fun σ2 ok2 w2 => ⟨rfl, q σ2 ok2 fun vs hv => ?_⟩⟩⟩⟩⟩
          rw [w2 vs fun i hi => hv i (by simp [gslots, hi]), w1 vs fun i hi => hv i (by simp [gslots, hi])]
  | _, _, .thr (a := a) (b := b) (d := b2) (ga := ga) (gb := gb) (gd := gb2) ha hb hb2 => by
    have na := noStarG ha
    have nb := noStarG hb
    have nb2 := noStarG hb2
    have e0 : assignEach [a, b, b2] X.env = [(false, assign a X.env), (false, assign b X.env), (false, assign b2 X.env)] := by rw [assignEach_cons na, assignEach_cons nb, assignEach_cons nb2]; rfl
    refine PG.imp (pg_seq (n := 3) gd.calm (pgs_cons' (soundG gd ha) (pgs_cons' (soundG gd hb) (pgs_cons' (soundG gd hb2) pgs_nil nb2) nb) na) (by rw [e0]; rfl) (by rw [e0]; rfl)) fun v σ H Q ⟨O, H0, A, ρ, ρ', d, ok, r, e, q⟩ => ?_
    obtain ⟨x, y, z, ρ1, ρ2, hi, e1, e2, e3⟩ := asg3 e
    obtain ⟨p, xs, rfl, h1, h2⟩ := rp_items r hi
    cases h2 with
    | cons r1 t =>
      cases t with
      | cons r2 t =>
        cases t with
        | cons r3 t =>
          cases t
          rcases h1 with h1 | h1
          · left
            refine ⟨p, _, rfl, h1, rfl, _, _, rfl, ⟨O, H0, A, ρ, ρ1, x, ok, r1, e1, fun σ1 ok1 w1 => ⟨_, _, rfl, ⟨O, H0, A, ρ1, ρ2, y, ok1, r2, e2, fun σ2 ok2 w2 => ⟨_, _, rfl, ⟨O, H0, A, ρ2, ρ', z, ok2, r3, e3, fun σ3 ok3 w3 => ⟨rfl, q σ3 ok3 fun vs hv => ?_⟩⟩⟩⟩⟩⟩⟩
            rw [w3 vs fun i hi => hv i (by simp [gslots, hi]), w2 vs fun i hi => hv i (by simp [gslots, hi]), w1 vs fun i hi => hv i (by simp [gslots, hi])]
          · right
            refine ⟨p, _, rfl, h1, rfl, _, _, rfl, ⟨O, H0, A, ρ, ρ1, x, ok, r1, e1, fun σ1 ok1 w1 => ⟨_, _, rfl, ⟨O, H0, A, ρ1, ρ2, y, ok1, r2, e2, fun σ2 ok2 w2 => ⟨_, _, rfl, ⟨O, H0, A, ρ2, ρ', z, ok2, r3, e3, fun σ3 ok3 w3 => ⟨rfl, q σ3 ok3 fun vs hv => ?_⟩⟩⟩⟩⟩⟩⟩
            rw [w3 vs fun i hi => hv i (by simp [gslots, hi]), w2 vs fun i hi => hv i (by simp [gslots, hi]), w1 vs fun i hi => hv i (by simp [gslots, hi])]
  | _, _, .fou (a := a) (b := b) (d := b2) (e := b3) (ga := ga) (gb := gb) (gd := gb2) (ge := gb3) ha hb hb2 hb3 => by
    have na := noStarG ha
    have nb := noStarG hb
    have nb2 := noStarG hb2
    have nb3 := noStarG hb3
    have e0 : assignEach [a, b, b2, b3] X.env = [(false, assign a X.env), (false, assign b X.env), (false, assign b2 X.env), (false, assign b3 X.env)] := by rw [assignEach_cons na, assignEach_cons nb, assignEach_cons nb2, assignEach_cons nb3]; rfl
    refine PG.imp (pg_seq (n := 4) gd.calm (pgs_cons' (soundG gd ha) (pgs_cons' (soundG gd hb) (pgs_cons' (soundG gd hb2) (pgs_cons' (soundG gd hb3) pgs_nil nb3) nb2) nb) na) (by rw [e0]; rfl) (by rw [e0]; rfl)) fun v σ H Q ⟨O, H0, A, ρ, ρ', d, ok, r, e, q⟩ => ?_
    obtain ⟨x, y, z, u, ρ1, ρ2, ρ3, hi, e1, e2, e3, e4⟩ := asg4 e
    obtain ⟨p, xs, rfl, h1, h2⟩ := rp_items r hi
    cases h2 with
    | cons r1 t =>
      cases t with
      | cons r2 t =>
        cases t with
        | cons r3 t =>
          cases t with
          | cons r4 t =>
            cases t
            rcases h1 with h1 | h1
            · left
              refine ⟨p, _, rfl, h1, rfl, _, _, rfl, ⟨O, H0, A, ρ, ρ1, x, ok, r1, e1, fun σ1 ok1 w1 => ⟨_, _, rfl, ⟨O, H0, A, ρ1, ρ2, y, ok1, r2, e2, fun σ2 ok2 w2 => ⟨_, _, rfl, ⟨O, H0, A, ρ2, ρ3, z, ok2, r3, e3, fun σ3 ok3 w3 => ⟨_, _, rfl, ⟨O, H0, A, ρ3, ρ', u, ok3, r4, e4, fun σ4 ok4 w4 => ⟨rfl, q σ4 ok4 fun vs hv => ?_⟩⟩⟩⟩⟩⟩⟩⟩⟩
              rw [w4 vs fun i hi => hv i (by simp [gslots, hi]), w3 vs fun i hi => hv i (by simp [gslots, hi]), w2 vs fun i hi => hv i (by simp [gslots, hi]), w1 vs fun i hi => hv i (by simp [gslots, hi])]
            · right
              refine ⟨p, _, rfl, h1, rfl, _, _, rfl, ⟨O, H0, A, ρ, ρ1, x, ok, r1, e1, fun σ1 ok1 w1 => ⟨_, _, rfl, ⟨O, H0, A, ρ1, ρ2, y, ok1, r2, e2, fun σ2 ok2 w2 => ⟨_, _, rfl, ⟨O, H0, A, ρ2, ρ3, z, ok2, r3, e3, fun σ3 ok3 w3 => ⟨_, _, rfl, ⟨O, H0, A, ρ3, ρ', u, ok3, r4, e4, fun σ4 ok4 w4 => ⟨rfl, q σ4 ok4 fun vs hv => ?_⟩⟩⟩⟩⟩⟩⟩⟩⟩
              rw [w4 vs fun i hi => hv i (by simp [gslots, hi]), w3 vs fun i hi => hv i (by simp [gslots, hi]), w2 vs fun i hi => hv i (by simp [gslots, hi]), w1 vs fun i hi => hv i (by simp [gslots, hi])]
/-- within a comprehension's block -/
theorem good_blk (gd : Good c k sc X) {scope : Scope} {own : List (Str × Nat)} (hb : blkC c.N ⟨.function, sc, false, false, []⟩ scope own = true) (s : Shared) (H : Hp) (C : Addr) (cl : List (Str × Addr)) (fp : List Addr) :
    Good c k scope.names (X.blk s H scope (compEnvC scope cl C X.env) fp) := by
  have ok := blkOk_by hb
  have hsc : (compEnvC scope cl C X.env).scope = relS scope X.env.scope := rfl
  refine ⟨gd.hN, gd.nd, gd.calm, ok.kind, fun x h => ?_, fun x h => ⟨?_, ?_⟩, fun x h => ?_, fun x h => ?_, gd.still, gd.room, PassesOwn.never, gd.fns, gd.blt, gd.csts, gd.cuts, gd.key⟩
  · exact lookup_relS_keep (sc := X.env.scope) (by decide) h
  · exact lookup_relS_keep (sc := X.env.scope) (by decide) h
  · show (scope.names.lookup x == some .cell) = true
    rw [h]; rfl
  · -- a free name is a cell of the block or free there
    have : ∃ k, (compEnvC scope cl C X.env).scope.names.lookup x = some k := by
      rw [hsc]
      have hm := PySem.mem_of_lookup h
      have : ∃ k, (x, k) ∈ (relS scope X.env.scope).names := by
        by_cases hc : (NameKind.free == NameKind.free && X.env.scope.kind == .function && X.env.scope.names.lookup x == some .cell) = true
        · exact ⟨.cell, List.mem_map.mpr ⟨(x, .free), hm, if_pos hc⟩⟩
        · exact ⟨.free, List.mem_map.mpr ⟨(x, .free), hm, if_neg hc⟩⟩
      obtain ⟨k, hk⟩ := this
      exact mem_lookup hk
    obtain ⟨k', hk'⟩ := this
    show (compEnvC scope cl C X.env).scope.names.lookup x = some .cell ∨ (compEnvC scope cl C X.env).scope.names.lookup x = some .free
    rw [hk']
    obtain ⟨k2, e1, e2⟩ := lookup_relS (sc := X.env.scope) (by rw [hsc] at hk'; exact hk')
    rw [h] at e1
    cases e1
    rcases e2 with e2 | ⟨_, e2⟩
    · exact .inr (by rw [e2])
    · exact .inl (by rw [e2])
  · exact lookup_relS_keep (sc := X.env.scope) (by decide) h
theorem blk_ok (gd : Good c k sc X) {scope : Scope} {own : List (Str × Nat)} (hb : blkC c.N ⟨.function, sc, false, false, []⟩ scope own = true) : BlkOk X.N X.env.scope scope own := by
  have ok := blkOk_by hb
  refine ⟨ok.kind, ok.uniq, by rw [gd.hN]; exact ok.ix, fun y hy e => ?_, by rw [gd.hN]; exact ok.own⟩
  rcases ok.free y hy e with h | h
  · exact .inl (gd.cl _ h).1
  · exact gd.fr _ h
end
end PV

set_option Elab.async false
set_option linter.all false
set_option maxRecDepth 100000
set_option maxHeartbeats 4000000
/-! PV7: soundness of expressions. -/
namespace PV
open PySem PySem.Spec PyProof.Rows L2

/-! ### small facts of the text -/
theorem starEach_cons {e : Expr} {es : List Expr} {env : Env} (h : noStar e = true) : starEach (e :: es) env = (false, eval e env) :: starEach es env := by
  cases e <;> first | rfl | cases h
theorem ces_star {c : Cfg} : ∀ {sc : Sc} {es : List Expr} {xs : Es}, CEs c sc es xs → ∀ (pos : Pos) (env : Env), (backTo pos (starEach es env)).any (·.1) = false
  | _, _, _, .nil, _, _ => rfl
  | _, _, _, .cons h n t, pos, env => by
    rw [starEach_cons n]
    show (false || (backTo pos (starEach _ env)).any (·.1)) = false
    rw [ces_star t]; rfl
theorem plain_ix {b : Expr} (h : noSlice b = true) : PlainIx b := fun o i => by
  cases b <;> first | rfl | cases h
theorem noset_of {iter : Expr} (h : noSet iter = true) (env : Env) (x : Value) : foldedSetIterable iter env x = pure x := by
  cases iter <;> first | rfl | cases h
theorem wipe_wipe {σ : L2.St} : ∀ {vs us : List Nat}, (∀ i ∈ us, i ∈ vs) → wipe (wipe σ us) vs = wipe σ vs
  | vs, [], _ => rfl
  | vs, u :: us, h => by
    show wipe ((wipe σ us).set u none) vs = wipe σ vs
    rw [wipe_set (h u List.mem_cons_self), wipe_wipe fun i hi => h i (List.mem_cons_of_mem _ hi)]
theorem boot_bi {b : BI} {f : Str} (h : biName b = some f) : f ∈ builtinsUsed ∧ (f ≠ "__name__") ∧ (f == ("__debug__" : Str)) = false := by
  cases b <;> cases h <;> exact ⟨by decide +kernel, by decide +kernel, by decide +kernel⟩
theorem boot_is {b : BI} {f : Str} (h : isName b = some f) : f ∈ builtinsUsed ∧ (f ≠ "__name__") ∧ (f == ("__debug__" : Str)) = false := by
  cases b <;> cases h <;> exact ⟨by decide +kernel, by decide +kernel, by decide +kernel⟩

section
variable {X : Cx}
def Both (X : Cx) (e : Expr) (x : E) : Prop := (∀ b, PE X e (tE X.K x b)) ∧ PT X e (tT X.K x)
theorem evT_inv {x : E} {ρ : Sl} {k : Bool} (h : evT x ρ = some k) : ∃ r : R, evE x true ρ = some r ∧ r.2 = .bool k := by
  obtain ⟨r, e, h⟩ := bind_some h
  refine ⟨r, e, ?_⟩
  split at h
  · rename_i k' e2; cases h; exact e2
  · cases h
theorem rpB_bool {K : PySem.W.Frag} {H : Hp} {P : Set0} {v : V} {r : R} {k : Bool} (h : RpB K H P v r.2) (e : r.2 = .bool k) : v = .bl k := by
  rw [e] at h; exact h.bool
theorem rpB_int {K : PySem.W.Frag} {H : Hp} {P : Set0} {v : V} {r : R} {k : Int} (h : RpB K H P v r.2) (e : r.2 = .int k) : v = .int k := by
  rw [e] at h; exact h.int
/-- a test that is a plain value -/
theorem both_plain {e : Expr} {x : E} (h : ∀ b, PE X e (tE X.K x b)) (hp : ∀ whole, isTrue e X.env whole = (do let v ← whole; standAt e.pos; holding [v] (truthy v))) : Both X e x := by
  refine ⟨h, PT.imp (pt_val (h true) hp) fun σ H Q ⟨O, H0, A, ρ, k, ok, ev, q⟩ => ?_⟩
  obtain ⟨r, e1, e2⟩ := evT_inv ev
  exact ⟨O, H0, A, ρ, r, ok, e1, fun v H' s h => ⟨k, rpB_bool (rpB_of ok s h) e2, q H' s⟩⟩
theorem rpX_bl {K : PySem.W.Frag} {H0 H : Hp} {O P : Set0} {b k : Bool} : RpX K H0 H O P b (.bl k) (false, .bool k) := RpX.sh (.bl k)

/-! ### one construct each, from its parts -/
variable {c : Cfg} {k : Nat} {sc : Sc}
theorem s_bin {o : BOp} {a b : Expr} {pos : Pos} {x y : E} (ha : Both X a x) (hb : Both X b y) (bb : Bool) : PE X (.BinOp a (opOf o) b pos) (tE X.K (.bin o x y) bb) := by
  refine PE.imp (pe_op (op_bin o) (ha.1 true) (hb.1 true)) fun σ H Q ⟨O, H0, A, ρ, r, ok, ev, q⟩ => ?_
  simp only [evE] at ev
  obtain ⟨r1, e1, ev⟩ := bind_some ev
  obtain ⟨r2, e2, ev⟩ := bind_some ev
  exact ⟨O, H0, A, ρ, r1, ok, e1, fun v1 H1 s1 h1 => ⟨O, H0, A, ρ, r2, ok.same s1, e2, fun v2 H2 s2 h2 => ⟨Ow O A, _, _, r, fun a z => ((ok.same s1).same s2).own_some z, (rpB_of ok s1 h1).same s2, rpB_of (ok.same s1) s2 h2, ev, fun v H' s3 h3 =>
    q v H' (s1.trans (s2.trans s3)) (RpX.up (s1.trans s2) h3.toX)⟩⟩⟩
theorem s_neg {a : Expr} {pos : Pos} {x : E} (ha : Both X a x) (bb : Bool) : PE X (.UnaryOp .USub a pos) (tE X.K (.neg x) bb) := by
  refine PE.imp (pe_un op_neg (ha.1 true)) fun σ H Q ⟨O, H0, A, ρ, r, ok, ev, q⟩ => ?_
  simp only [evE] at ev
  obtain ⟨r1, e1, ev⟩ := bind_some ev
  exact ⟨O, H0, A, ρ, r1, ok, e1, fun v1 H1 s1 h1 => ⟨Ow O A, _, r, rpB_of ok s1 h1, ev, fun v H' s3 h3 => q v H' (s1.trans s3) (RpX.up s1 h3.toX)⟩⟩
theorem s_cmp (hu : X.A.units + 64 < cLine) {o : COp} {a b : Expr} {pos : Pos} {x y : E} (ha : Both X a x) (hb : Both X b y) (hm : behindInMarks (copOf o) b = false) : Both X (.Compare a [copOf o] [b] pos) (.cmp o x y) := by
  refine ⟨fun bb => PE.imp (pe_cmpR (op_cmp hu o) (ha.1 true) (hb.1 true) hm) fun σ H Q ⟨O, H0, A, ρ, r, ok, ev, q⟩ => ?_,
    PT.imp (pt_cmpR (op_cmp hu o) (ha.1 true) (hb.1 true) hm) fun σ H Q ⟨O, H0, A, ρ, k, ok, ev, q⟩ => ?_⟩
  · simp only [evE] at ev
    obtain ⟨r1, e1, ev⟩ := bind_some ev
    obtain ⟨r2, e2, ev⟩ := bind_some ev
    obtain ⟨k, ev3, e3⟩ := map_some ev
    subst e3
    exact ⟨O, H0, A, ρ, r1, ok, e1, fun v1 H1 s1 h1 => ⟨O, H0, A, ρ, r2, ok.same s1, e2, fun v2 H2 s2 h2 => ⟨Ow O A, _, _, k, (rpB_of ok s1 h1).same s2, rpB_of (ok.same s1) s2 h2, ev3, q _ _ (s1.trans s2) rpX_bl⟩⟩⟩
  · obtain ⟨r, ev, e3⟩ := evT_inv ev
    simp only [evE] at ev
    obtain ⟨r1, e1, ev⟩ := bind_some ev
    obtain ⟨r2, e2, ev⟩ := bind_some ev
    obtain ⟨k', ev3, e4⟩ := map_some ev
    subst e4
    cases e3
    exact ⟨O, H0, A, ρ, r1, ok, e1, fun v1 H1 s1 h1 => ⟨O, H0, A, ρ, r2, ok.same s1, e2, fun v2 H2 s2 h2 => ⟨Ow O A, _, _, k, (rpB_of ok s1 h1).same s2, rpB_of (ok.same s1) s2 h2, ev3, k, rfl, q _ (s1.trans s2)⟩⟩⟩
theorem s_chain (hu : X.A.units + 64 < cLine) {o p : COp} {a b d : Expr} {pos : Pos} {x y z : E} (ha : Both X a x) (hb : Both X b y) (hd : Both X d z) (hm : behindInMarks (copOf p) d = false) : Both X (.Compare a [copOf o, copOf p] [b, d] pos) (.chain o p x y z) := by
  have hm' : lastMarks [copOf o, copOf p] [b, d] = false := hm
  refine ⟨fun bb => PE.imp (pe_chain (op_cmp hu o) (op_cmp hu p) (ha.1 true) (hb.1 true) (hd.1 true) hm') fun σ H Q ⟨O, H0, A, ρ, r, ok, ev, q⟩ => ?_,
    PT.imp (pt_chain (op_cmp hu o) (op_cmp hu p) (ha.1 true) (hb.1 true) (hd.1 true) hm') fun σ H Q ⟨O, H0, A, ρ, kk, ok, ev, q⟩ => ?_⟩
  · simp only [evE] at ev
    obtain ⟨r1, e1, ev⟩ := bind_some ev
    obtain ⟨r2, e2, ev⟩ := bind_some ev
    obtain ⟨k1, e3, ev⟩ := bind_some ev
    refine ⟨O, H0, A, ρ, r1, ok, e1, fun v1 H1 s1 h1 => ⟨O, H0, A, ρ, r2, ok.same s1, e2, fun v2 H2 s2 h2 => ⟨Ow O A, _, _, k1, (rpB_of ok s1 h1).same s2, rpB_of (ok.same s1) s2 h2, e3, k1, rfl, ?_⟩⟩⟩
    cases k1 with
    | false =>
      rw [if_neg Bool.false_ne_true]
      cases ev
      exact q _ _ (s1.trans s2) rpX_bl
    | true =>
      rw [if_pos rfl]
      obtain ⟨r3, e4, ev⟩ := bind_some ev
      obtain ⟨k2, e5, e6⟩ := map_some ev
      subst e6
      exact ⟨O, H0, A, ρ, r3, (ok.same s1).same s2, e4, fun v3 H3 s3 h3 => ⟨Ow O A, _, _, k2, (rpB_of (ok.same s1) s2 h2).same s3, rpB_of ((ok.same s1).same s2) s3 h3, e5, q _ _ (s1.trans (s2.trans s3)) rpX_bl⟩⟩
  · obtain ⟨r, ev, e9⟩ := evT_inv ev
    simp only [evE] at ev
    obtain ⟨r1, e1, ev⟩ := bind_some ev
    obtain ⟨r2, e2, ev⟩ := bind_some ev
    obtain ⟨k1, e3, ev⟩ := bind_some ev
    refine ⟨O, H0, A, ρ, r1, ok, e1, fun v1 H1 s1 h1 => ⟨O, H0, A, ρ, r2, ok.same s1, e2, fun v2 H2 s2 h2 => ⟨Ow O A, _, _, k1, (rpB_of ok s1 h1).same s2, rpB_of (ok.same s1) s2 h2, e3, k1, rfl, ?_⟩⟩⟩
    cases k1 with
    | false =>
      rw [if_neg Bool.false_ne_true]
      cases ev
      cases e9
      exact ⟨false, rfl, q _ (s1.trans s2)⟩
    | true =>
      rw [if_pos rfl]
      obtain ⟨r3, e4, ev⟩ := bind_some ev
      obtain ⟨k2, e5, e6⟩ := map_some ev
      subst e6
      cases e9
      exact ⟨O, H0, A, ρ, r3, (ok.same s1).same s2, e4, fun v3 H3 s3 h3 => ⟨Ow O A, _, _, kk, (rpB_of (ok.same s1) s2 h2).same s3, rpB_of ((ok.same s1).same s2) s3 h3, e5, kk, rfl, q _ (s1.trans (s2.trans s3))⟩⟩
theorem s_not {a : Expr} {pos : Pos} {x : E} (ha : Both X a x) : Both X (.UnaryOp .Not a pos) (.not x) := by
  refine ⟨fun bb => PE.imp (pe_not (ha.1 true)) fun σ H Q ⟨O, H0, A, ρ, r, ok, ev, q⟩ => ?_, PT.imp (pt_not ha.2) fun σ H Q ⟨O, H0, A, ρ, kk, ok, ev, q⟩ => ?_⟩
  · simp only [evE] at ev
    obtain ⟨r1, e1, ev⟩ := bind_some ev
    split at ev
    · rename_i k1 e2
      cases ev
      exact ⟨O, H0, A, ρ, r1, ok, e1, fun v1 H1 s1 h1 => ⟨k1, rpB_bool (rpB_of ok s1 h1) e2, q _ _ s1 rpX_bl⟩⟩
    · cases ev
  · obtain ⟨r, ev, e9⟩ := evT_inv ev
    simp only [evE] at ev
    obtain ⟨r1, e1, ev⟩ := bind_some ev
    split at ev
    · rename_i k1 e2
      cases ev
      cases e9
      refine ⟨O, H0, A, ρ, k1, ok, ?_, fun H1 s1 => q _ s1⟩
      unfold evT
      rw [e1]
      show (match r1.2 with | .bool k => some k | _ => none) = some k1
      rw [e2]
    · cases ev
theorem evT_of {x : E} {ρ : Sl} {r : R} {k : Bool} (e : evE x true ρ = some r) (e2 : r.2 = .bool k) : evT x ρ = some k := by
  unfold evT
  rw [e]
  show (match r.2 with | .bool k => some k | _ => none) = some k
  rw [e2]
theorem s_ite {t a b : Expr} {pos : Pos} {z x y : E} (ht : Both X t z) (ha : Both X a x) (hb : Both X b y) (bb : Bool) : PE X (.IfExp t a b pos) (tE X.K (.ite z x y) bb) := by
  refine PE.imp (pe_ifExp ht.2 (ha.1 bb) (hb.1 bb)) fun σ H Q ⟨O, H0, A, ρ, r, ok, ev, q⟩ => ?_
  simp only [evE] at ev
  obtain ⟨r1, e1, ev⟩ := bind_some ev
  split at ev
  · rename_i e2
    exact ⟨O, H0, A, ρ, true, ok, evT_of e1 e2, fun H1 s1 => by show tE X.K x bb σ H1 Q; exact ⟨O, H0, A, ρ, r, ok.same s1, ev, fun v H' s h => q v H' (s1.trans s) (h.up s1)⟩⟩
  · rename_i e2
    exact ⟨O, H0, A, ρ, false, ok, evT_of e1 e2, fun H1 s1 => by show tE X.K y bb σ H1 Q; exact ⟨O, H0, A, ρ, r, ok.same s1, ev, fun v H' s h => q v H' (s1.trans s) (h.up s1)⟩⟩
  · cases ev
theorem isTrue_ifExp {t a b : Expr} {pos : Pos} {env : Env} {whole : Sem Value} : isTrue (.IfExp t a b pos) env whole = (do if ← isTrue t env (eval t env) then isTrue a env (eval a env) else isTrue b env (eval b env)) := rfl
theorem s_iteT {t a b : Expr} {pos : Pos} {z x y : E} (ht : Both X t z) (ha : Both X a x) (hb : Both X b y) : PT X (.IfExp t a b pos) (tT X.K (.ite z x y)) := by
  refine ⟨fun pins s σ H Q I ⟨O, H0, A, ρ, kk, ok, ev, q⟩ => ?_⟩
  obtain ⟨r, ev, e9⟩ := evT_inv ev
  simp only [evE] at ev
  obtain ⟨r1, e1, ev⟩ := bind_some ev
  rw [isTrue_ifExp]
  split at ev
  · rename_i e2
    refine wpAny_bind (thn (ht.2.run pins s σ H (fun d H1 => d = true ∧ Same H H1) I ⟨O, H0, A, ρ, true, ok, evT_of e1 e2, fun H1 s1 => ⟨rfl, s1⟩⟩) fun d s1 ⟨H1, I1, e3, s1'⟩ => ?_)
    subst e3
    rw [if_pos rfl]
    exact ha.2.run pins s1 σ H1 Q I1 ⟨O, H0, A, ρ, kk, ok.same s1', evT_of ev e9, fun H2 s2 => q H2 (s1'.trans s2)⟩
  · rename_i e2
    refine wpAny_bind (thn (ht.2.run pins s σ H (fun d H1 => d = false ∧ Same H H1) I ⟨O, H0, A, ρ, false, ok, evT_of e1 e2, fun H1 s1 => ⟨rfl, s1⟩⟩) fun d s1 ⟨H1, I1, e3, s1'⟩ => ?_)
    subst e3
    rw [if_neg Bool.false_ne_true]
    exact hb.2.run pins s1 σ H1 Q I1 ⟨O, H0, A, ρ, kk, ok.same s1', evT_of ev e9, fun H2 s2 => q H2 (s1'.trans s2)⟩
  · cases ev
/-- displays -/
theorem s_tup {es : List Expr} {kk : Nat} {pos : Pos} {xs : Es} (h : ∀ b, PA X es (tEs X.K xs b)) (bb : Bool) : PE X (.Tuple es kk pos) (tE X.K (.tup xs) bb) := by
  refine PE.imp (pe_tup (h false)) fun σ H Q ⟨O, H0, A, ρ, r, ok, ev, q⟩ => ?_
  simp only [evE] at ev
  obtain ⟨ds, e1, ev⟩ := bind_some ev
  split at ev
  · rename_i hl
    cases ev
    refine ⟨O, H0, A, ρ, ds, ok, e1, fun vs H1 s1 hv => ?_⟩
    have hv : RpA X.K H1 (Ow O A) vs ds := hv
    refine ⟨by rw [hv.length]; exact lenOk_le hl, fun p hp => q _ _ (s1.trans (same_upd hp)) (RpX.sh ?_)⟩
    exact .tup (.inl ⟨upd_same, (ok.same s1).fresh hp⟩) (hv.same (same_upd hp))
  · cases ev
theorem s_lst {es : List Expr} {pos : Pos} {xs : Es} (h : ∀ b, PA X es (tEs X.K xs b)) (bb : Bool) : PE X (.List es pos) (tE X.K (.lst xs) bb) := by
  refine PE.imp (pe_lst (h false)) fun σ H Q ⟨O, H0, A, ρ, r, ok, ev, q⟩ => ?_
  simp only [evE] at ev
  obtain ⟨ds, e1, ev⟩ := bind_some ev
  split at ev
  · rename_i hl
    cases ev
    refine ⟨O, H0, A, ρ, ds, ok, e1, fun vs H1 s1 hv => ?_⟩
    have hv : RpA X.K H1 (Ow O A) vs ds := hv
    refine ⟨by rw [hv.length]; exact lenOk_le hl, fun p hp => q _ _ (s1.trans (same_upd hp)) ⟨p, vs, ds, rfl, rfl, upd_same, s1.free hp, ?_⟩⟩
    exact RpA.keep (fun a o e _ => same_upd hp a o e) (fun a z => z.elim .inl fun e => .inr (by rw [e]; exact hp)) _ _ hv
  · cases ev
theorem s_ix {a b : Expr} {pos : Pos} {x y : E} (ha : Both X a x) (hb : Both X b y) (hs : noSlice b = true) (bb : Bool) : PE X (.Subscript a b pos) (tE X.K (.ix x y) bb) := by
  refine PE.imp (pe_ix ix_P (ha.1 true) (hb.1 true) (plain_ix hs)) fun σ H Q ⟨O, H0, A, ρ, r, ok, ev, q⟩ => ?_
  simp only [evE] at ev
  obtain ⟨r1, e1, ev⟩ := bind_some ev
  obtain ⟨r2, e2, ev⟩ := bind_some ev
  exact ⟨O, H0, A, ρ, r1, ok, e1, fun v1 H1 s1 h1 => ⟨O, H0, A, ρ, r2, ok.same s1, e2, fun v2 H2 s2 h2 => ⟨Ow O A, _, _, r, (rpB_of ok s1 h1).same s2, rpB_of (ok.same s1) s2 h2, ev, fun v H' s3 h3 =>
    q v H' (s1.trans (s2.trans s3)) (RpX.up (s1.trans s2) h3.toX)⟩⟩⟩
theorem s_po {lo : Option Expr} {l : Oe} (h : match lo, l with | none, .no => True | some e, .yes x => Both X e x | _, _ => False) : PO X lo (tP X.K l) := by
  match lo, l, h with
  | none, .no, _ =>
    refine PO.imp po_none fun σ H Q ⟨O, H0, A, ρ, r, ok, ev, q⟩ => ?_
    simp only [evP] at ev
    cases ev
    exact q _ (Same.refl H)
  | some e, .yes x, h =>
    refine PO.imp (po_some ((show Both X e x from h).1 true)) fun σ H Q ⟨O, H0, A, ρ, r, ok, ev, q⟩ => ?_
    simp only [evP] at ev
    obtain ⟨r1, e1, ev⟩ := bind_some ev
    split at ev
    · rename_i i e2
      cases ev
      exact ⟨O, H0, A, ρ, r1, ok, e1, fun v1 H1 s1 h1 => ⟨i, rpB_int (rpB_of ok s1 h1) e2, q _ s1⟩⟩
    · cases ev
theorem s_sl {a : Expr} {lo hi : Option Expr} {p pos : Pos} {x : E} {l h : Oe} (ha : Both X a x) (hl : PO X lo (tP X.K l)) (hh : PO X hi (tP X.K h)) (bb : Bool) : PE X (.Subscript a (.Slice lo hi none p) pos) (tE X.K (.sl x l h) bb) := by
  refine PE.imp (pe_slice sl_P (ha.1 true) hl hh) fun σ H Q ⟨O, H0, A, ρ, r, ok, ev, q⟩ => ?_
  simp only [evE] at ev
  obtain ⟨r1, e1, ev⟩ := bind_some ev
  obtain ⟨l1, e2, ev⟩ := bind_some ev
  obtain ⟨l2, e3, ev⟩ := bind_some ev
  exact ⟨O, H0, A, ρ, r1, ok, e1, fun v1 H1 s1 h1 => ⟨O, H0, A, ρ, l1, ok.same s1, e2, fun H2 s2 => ⟨O, H0, A, ρ, l2, (ok.same s1).same s2, e3, fun H3 s3 => ⟨Ow O A, _, r, fun a z => (((ok.same s1).same s2).same s3).own_some z, (rpB_of ok s1 h1).same (s2.trans s3), ev, fun v H' s4 h4 =>
    q v H' (s1.trans (s2.trans (s3.trans s4))) (RpX.up (s1.trans (s2.trans s3)) h4.toX)⟩⟩⟩⟩
/-- lists of arguments -/
theorem s_nil (b : Bool) : PA X [] (tEs X.K .nil b) := by
  refine PA.imp pa_nil fun σ H Q ⟨O, H0, A, ρ, ds, ok, ev, q⟩ => ?_
  simp only [evEs] at ev
  cases ev
  refine q [] H (Same.refl H) ?_
  cases b
  · exact .nil
  · exact .nil
theorem rpBs_same {K : PySem.W.Frag} {H H' : Hp} {P : Set0} {vs : List V} {ds : List PyData} (s : Same H H') (h : RpBs K H P vs ds) : RpBs K H' P vs ds := Paired.mapP h fun _ _ r => r.same s
theorem s_cons {e : Expr} {es : List Expr} {x : E} {xs : Es} (he : Both X e x) (n : noStar e = true) (hs : ∀ b, PA X es (tEs X.K xs b)) (b : Bool) : PA X (e :: es) (tEs X.K (.cons x xs) b) := by
  refine PA.imp (pa_cons (he.1 b) (hs b) (starEach_cons n)) fun σ H Q ⟨O, H0, A, ρ, ds, ok, ev, q⟩ => ?_
  simp only [evEs] at ev
  obtain ⟨r1, e1, ev⟩ := bind_some ev
  obtain ⟨ds2, e2, e3⟩ := map_some ev
  subst e3
  refine ⟨O, H0, A, ρ, r1, ok, e1, fun v1 H1 s1 h1 => ⟨O, H0, A, ρ, ds2, ok.same s1, e2, fun vs H2 s2 h2 => q _ H2 (s1.trans s2) ?_⟩⟩
  cases b with
  | false => exact .cons ((ok.down s1 h1.toR).same s2) h2
  | true => exact .cons ((rpB_of ok s1 h1).same s2) h2
/-- f(..) of the text's own -/
theorem rpBs_lend {K : PySem.W.Frag} {H : Hp} {P : Set0} : ∀ {vs : List V} {ds : List PyData}, RpBs K H P vs ds → RpA K H (fun _ => False) vs ds
  | _, _, .nil => .nil
  | _, _, .cons r t => .cons (by
      rcases r with r | ⟨a, xs, ds, e1, e2, e3, h⟩
      · exact r.less fun _ z => z.elim
      · subst e1 e2
        exact .lst (.inl e3) (fun z => z) (h.less fun _ z => z.elim)) (rpBs_lend t)
theorem s_call {f : Str} {F : Fn} {p : Pos} {e : Expr} {es : List Expr} {pos : Pos} {xs : Es} (gd : Good c k sc X) (hf : gli sc f) (ht : c.tab f = some F) (hd : (f == ("__debug__" : Str)) = false) (n : noStar e = true) (ns : (backTo pos (starEach es X.env)).any (·.1) = false)
    (hs : ∀ b, PA X (e :: es) (tEs X.K xs b)) (bb : Bool) : PE X (.Call (.Name f p) (e :: es) [] pos) (tE X.K (.call F xs) bb) := by
  obtain ⟨a, fd, ps, hm, hk, hb, hF⟩ := gd.fns f F ht
  have go : ∀ b, PE X (.Call (.Name f p) (e :: es) [] pos) (tCall (spF X.K F) [] E0 (tEs X.K xs b)) := fun b => pe_callG hF gd.still gd.room (gd.gl f hf) hm hk hb (hs b) hd (starEach_cons n) ns
  refine ⟨fun pins s σ H Q I ⟨O, H0, A, ρ, r, ok, ev, q⟩ => ?_⟩
  simp only [evE] at ev
  split at ev
  · obtain ⟨ds, e1, ev⟩ := bind_some ev
    obtain ⟨r', e2, ev⟩ := bind_some ev
    split at ev
    · rename_i hn
      cases ev
      refine (go true).run pins s σ H Q I ⟨O, H0, A, ρ, ds, ok, e1, fun vs H1 s1 hv => ?_⟩
      have hv : RpBs X.K H1 (Ow O A) vs ds := hv
      show spF X.K F (vs ++ []) H1 Q E0
      rw [List.append_nil]
      refine ⟨fun _ => False, ds, r, fun _ z => z.elim, rpBs_lend hv, e2, fun v H2 s2 h2 => q v H2 (s1.trans s2) (RpX.up s1 ?_)⟩
      have ok1 := ok.same s1
      have ok2 := ok1.same s2
      obtain ⟨fl, d⟩ := r
      cases fl with
      | false => exact RpX.sh (Rp.nolist (fun a z => ok2.own_lst z) d v hn h2)
      | true =>
        obtain ⟨p, zs, es', q1, q2, q3, q4, h3⟩ := h2
        have q2 : d = .list es' := q2
        subst q2
        refine ⟨p, zs, es', q1, rfl, q3, q4, RpA.nolist (fun a z => ?_) es' zs hn h3⟩
        rcases z with z | z
        · exact ok2.own_lst z
        · exact ⟨_, by rw [z]; exact q3, .l zs⟩
    · cases ev
  · obtain ⟨ds, e1, ev⟩ := bind_some ev
    refine (go false).run pins s σ H Q I ⟨O, H0, A, ρ, ds, ok, e1, fun vs H1 s1 hv => ?_⟩
    have hv : RpA X.K H1 (Ow O A) vs ds := hv
    show spF X.K F (vs ++ []) H1 Q E0
    rw [List.append_nil]
    exact ⟨Ow O A, ds, r, fun a z => (ok.same s1).own_lst z, hv, ev, fun v H2 s2 h2 => q v H2 (s1.trans s2) (RpX.up s1 h2.toX)⟩
theorem s_call0 {f : Str} {F : Fn} {p pos : Pos} (gd : Good c k sc X) (hf : gli sc f) (ht : c.tab f = some F) (hd : (f == ("__debug__" : Str)) = false) (bb : Bool) : PE X (.Call (.Name f p) [] [] pos) (tE X.K (.call F .nil) bb) := by
  obtain ⟨a, fd, ps, hm, hk, hb, hF⟩ := gd.fns f F ht
  refine ⟨fun pins s σ H Q I ⟨O, H0, A, ρ, r, ok, ev, q⟩ => ?_⟩
  have ev : F [] = some r := ev
  refine (pe_callG0 hF gd.still gd.room (gd.gl f hf) hm hk hb hd).run pins s σ H Q I ?_
  show spF X.K F ([] ++ []) H Q E0
  exact ⟨Ow O A, [], r, fun a z => ok.own_lst z, .nil, ev, fun v H2 s2 h2 => q v H2 s2 h2.toX⟩
/-- x[::-1] -/
theorem s_rev {a : Expr} {kk : Nat} {p1 p2 p3 pos : Pos} {x : E} (ha : Both X a x) (bb : Bool) : PE X (.Subscript a (.Slice none none (some (.UnaryOp .USub (.Constant (.int 1) kk p1) p2)) p3) pos) (tE X.K (.rev x) bb) := by
  refine PE.imp (pe_revB (ha.1 true)) fun σ H Q ⟨O, H0, A, ρ, r, ok, ev, q⟩ => ?_
  simp only [evE] at ev
  obtain ⟨r1, e1, ev⟩ := bind_some ev
  refine ⟨O, H0, A, ρ, r1, ok, e1, fun v1 H1 s1 h1 => ?_⟩
  have hb := rpB_of ok s1 h1
  have hP : ∀ a, Ow O A a → H1 a ≠ none := fun a z => (ok.same s1).own_some z
  obtain ⟨fl, d⟩ := r1
  cases d <;> try cases ev
  · rename_i ds
    obtain ⟨a, xs, rfl, hr, hx⟩ := hb.list
    exact ⟨a, xs, rfl, .inl ⟨.inl hr, fun p hp => Gives.new (Q := Q) hP (fun v H2 s2 h2 => q v H2 (s1.trans s2) (RpX.up s1 h2.toX)) hx.reverse p hp⟩⟩
  · rename_i ds
    obtain ⟨a, xs, rfl, hr, hx⟩ := hb.tuple
    exact ⟨a, xs, rfl, .inr ⟨hr, fun p hp => Gives.newT (Q := Q) hP (fun v H2 s2 h2 => q v H2 (s1.trans s2) (RpX.up s1 h2.toX)) hx.reverse p hp⟩⟩
/-- built-ins -/
theorem bi_imp {b : BI} {e : Expr} {xs : Es} (h : PE X e (tCB (rBI X.K b) (tEs X.K xs true))) (bb : Bool) : PE X e (tE X.K (.bi b xs) bb) := by
  refine PE.imp h fun σ H Q ⟨O, H0, A, ρ, r, ok, ev, q⟩ => ?_
  simp only [evE] at ev
  obtain ⟨ds, e1, ev⟩ := bind_some ev
  exact ⟨O, H0, A, ρ, ds, ok, e1, fun vs H1 s1 hv => ⟨Ow O A, ds, r, fun a z => (ok.same s1).own_some z, hv, ev, fun v H2 s2 h2 => q v H2 (s1.trans s2) (RpX.up s1 h2.toX)⟩⟩
theorem s_bi {b : BI} {f : Str} {p : Pos} {e : Expr} {es : List Expr} {pos : Pos} {xs : Es} (gd : Good c k sc X) (hf : gli sc f) (hb : biName b = some f) (n : noStar e = true) (ns : (backTo pos (starEach es X.env)).any (·.1) = false)
    (hs : ∀ b, PA X (e :: es) (tEs X.K xs b)) (bb : Bool) : PE X (.Call (.Name f p) (e :: es) [] pos) (tE X.K (.bi b xs) bb) := by
  obtain ⟨m1, m2, m3⟩ := boot_bi hb
  have hm := gd.blt f m1
  have hg := gd.gl f hf
  have hu := gd.room.units
  have hc := gd.calm
  have he : starEach (e :: es) X.env = (false, eval e X.env) :: starEach es X.env := starEach_cons n
  cases b <;> cases hb
  case len => exact bi_imp (pe_callB call_lenP hg hm PySem.boot_len (hs true) m2 m3 he ns) bb
  case abs => exact bi_imp (pe_callB call_absP hg hm PyProof.Rows.boot_abs (hs true) m2 m3 he ns) bb
  case int => exact bi_imp (pe_callTy call_intP hg hm (by decide +kernel) (hs true) m2 m3 he ns) bb
  case min => exact bi_imp (pe_callB (call_minP hc) hg hm PyProof.Rows.boot_min (hs true) m2 m3 he ns) bb
  case max => exact bi_imp (pe_callB (call_maxP hc) hg hm PyProof.Rows.boot_max (hs true) m2 m3 he ns) bb
  case sum => exact bi_imp (pe_callB (call_sumP hc) hg hm PyProof.Rows.boot_sum (hs true) m2 m3 he ns) bb
  case sorted => exact bi_imp (pe_callB (call_sortedP hu) hg hm (by decide +kernel) (hs true) m2 m3 he ns) bb
  case list => exact bi_imp (pe_callTy call_listP hg hm (by decide +kernel) (hs true) m2 m3 he ns) bb
  case tuple => exact bi_imp (pe_callTy call_tupleP hg hm (by decide +kernel) (hs true) m2 m3 he ns) bb
  case repr => exact bi_imp (pe_callB (call_reprP gd.still hu) hg hm PyProof.Rows.boot_repr (hs true) m2 m3 he ns) bb
theorem s_is {b : BI} {T : Str} {p p2 : Pos} {e : Expr} {pos : Pos} {x : E} (gd : Good c k sc X) (hf : gli sc "isinstance") (hT : gli sc T) (hb : isName b = some T) (he : Both X e x) (n : noStar e = true) (bb : Bool) :
    PE X (.Call (.Name "isinstance" p) [e, .Name T p2] [] pos) (tE X.K (.bi b (.cons x .nil)) bb) := by
  obtain ⟨m1, m2, m3⟩ := boot_is hb
  have hm := gd.blt T m1
  have hg := gd.gl T hT
  have hmi := gd.blt "isinstance" (by decide +kernel)
  have hgi := gd.gl _ hf
  have h0 : starEach [e, .Name T p2] X.env = (false, eval e X.env) :: starEach [.Name T p2] X.env := starEach_cons n
  have fin : ∀ {T' : String} {f : PyData → Bool}, bootBuiltins T = some (.type T') → CallR X (.builtin "isinstance") (rIs X.K T' f) → (∀ d, evBI b [d] = some (false, .bool (f d))) → PE X (.Call (.Name "isinstance" p) [e, .Name T p2] [] pos) (tE X.K (.bi b (.cons x .nil)) bb) := by
    intro T' f hv hc hd
    refine PE.imp (pe_callB hc hgi hmi PyProof.Rows.boot_isinstance (pa_cons (he.1 true) (pa_cons (pe_bltn (v := .ty T') hg hm hv rfl m2 m3) pa_nil) h0) (by decide +kernel) (by decide +kernel) h0 rfl) fun σ H Q ⟨O, H0, A, ρ, r, ok, ev, q⟩ => ?_
    simp only [evE, evEs] at ev
    obtain ⟨ds, e1, ev⟩ := bind_some ev
    obtain ⟨r1, e1', e2⟩ := bind_some e1
    cases e2
    rw [hd] at ev
    cases ev
    exact ⟨O, H0, A, ρ, r1, ok, e1', fun v1 H1 s1 h1 => ⟨Ow O A, v1, _, rfl, rpB_of ok s1 h1, q _ _ s1 rpX_bl⟩⟩
  cases b <;> cases hb
  case isInt => exact fin (by decide +kernel) call_isIntP fun _ => rfl
  case isBool => exact fin (by decide +kernel) call_isBoolP fun _ => rfl
  case isList => exact fin (by decide +kernel) call_isListP fun _ => rfl
  case isTuple => exact fin (by decide +kernel) call_isTupleP fun _ => rfl
  case isStr => exact fin (by decide +kernel) call_isStrP fun _ => rfl
/-- what is walked -/
theorem wk_list {K : PySem.W.Frag} {H1 : Hp} {a : Addr} {xs : List V} {ds : List PyData} {Kp : Hp → Prop} {P : Set0} (hr : ∀ H, Kp H → Rd H a (.lst xs)) (h2 : RpA K H1 P xs ds) : Wk K (Itl K a) Kp H1 P ds := by
  intro H hk i
  have h1 := hr H hk
  refine ⟨fun d hd => ?_, fun hi => ⟨xs, .inl h1, by rw [h2.length]; exact hi⟩⟩
  obtain ⟨v, hv, hr⟩ := h2.get hd
  refine ⟨⟨xs, v, .inl h1, hv⟩, fun x H' ⟨e, hy⟩ => ⟨e, ?_⟩⟩
  have := hy xs (.inl h1)
  rw [hv] at this
  cases this
  exact hr
theorem wk_tup {K : PySem.W.Frag} {H1 : Hp} {a : Addr} {xs : List V} {ds : List PyData} {Kp : Hp → Prop} {P : Set0} (hr : ∀ H, Kp H → SqT K H a xs) (h2 : RpA K H1 P xs ds) : Wk K (Itt K a) Kp H1 P ds := by
  intro H hk i
  have h1 := hr H hk
  refine ⟨fun d hd => ?_, fun hi => ⟨xs, h1, by rw [h2.length]; exact hi⟩⟩
  obtain ⟨v, hv, hr⟩ := h2.get hd
  refine ⟨⟨xs, v, h1, hv⟩, fun x H' ⟨e, hy⟩ => ⟨e, ?_⟩⟩
  have := hy xs h1
  rw [hv] at this
  cases this
  exact hr
theorem rng_get {lo : Int} {n i : Nat} {d : PyData} (h : (rngI lo n)[i]? = some d) : i < n ∧ d = .int (lo + i) := by
  unfold rngI at h
  rw [List.getElem?_map] at h
  by_cases hi : i < n
  · rw [List.getElem?_range hi] at h
    exact ⟨hi, (Option.some.inj h).symm⟩
  · rw [List.getElem?_eq_none (by simpa using hi)] at h; cases h
theorem rngS_get {lo st : Int} {n i : Nat} {d : PyData} (h : (rngS lo st n)[i]? = some d) : i < n ∧ d = .int (lo + i * st) := by
  unfold rngS at h
  rw [List.getElem?_map] at h
  by_cases hi : i < n
  · rw [List.getElem?_range hi] at h
    exact ⟨hi, (Option.some.inj h).symm⟩
  · rw [List.getElem?_eq_none (by simpa using hi)] at h; cases h
theorem wk_rng {K : PySem.W.Frag} {lo : Int} {n : Nat} {Kp : Hp → Prop} {H1 : Hp} {P : Set0} : Wk K (Itr lo n) Kp H1 P (rngI lo n) := by
  intro H hk i
  refine ⟨fun d hd => ?_, fun hi => show n ≤ i by unfold rngI at hi; simpa using hi⟩
  obtain ⟨hi, rfl⟩ := rng_get hd
  exact ⟨hi, fun x H' ⟨e, hx⟩ => ⟨e, by rw [hx]; exact .int _⟩⟩
theorem wk_rngS {K : PySem.W.Frag} {lo st : Int} {n : Nat} {Kp : Hp → Prop} {H1 : Hp} {P : Set0} : Wk K (Itc lo st n) Kp H1 P (rngS lo st n) := by
  intro H hk i
  refine ⟨fun d hd => ?_, fun hi => show n ≤ i by unfold rngS at hi; simpa using hi⟩
  obtain ⟨hi, rfl⟩ := rngS_get hd
  exact ⟨hi, fun x H' ⟨e, hx⟩ => ⟨e, by rw [hx]; exact .int _⟩⟩
/-- what is walked is a list or a tuple: PI of either kind -/
def iSeq (K : PySem.W.Frag) (tl : TE) : TI := fun σ H R => tl σ H fun x H1 => ∃ a, x = .ref a ∧ ((∃ xs, SqL K H1 a xs ∧ (xs.length ≤ sizeLine → R (Itl K a) H1)) ∨ (∃ xs, SqT K H1 a xs ∧ (xs.length ≤ sizeLine → R (Itt K a) H1)))
theorem pi_seq {tg l : Expr} {tl : TE} (hl : PE X l tl) : PI X tg l (iSeq X.K tl) := by
  refine ⟨fun pins s σ H R I h => ?_⟩
  refine thn (hl.run pins s σ H _ I h) fun v s1 ⟨x, H1, I1, r1, a, e, q⟩ => ?_
  subst e
  cases r1
  rcases q with ⟨xs, hq, q⟩ | ⟨xs, hq, q⟩
  · obtain ⟨its, rv, p, hz⟩ := I1.list hq
    refine wpAny_pyIter_list p.isList ?_
    refine ⟨s1.heap.objs.size, [s1.heap.objs.size], _, _, H1, rfl, I1.kept (t' := s1.toks) fun b o e => Heap.get?_push_of_some _ e, turn_list a _, ⟨_, Heap.get?_push_size _ rfl, rfl, rfl⟩, fun b hb => ?_, q hz⟩
    have e : b = s1.heap.objs.size := by simpa using hb
    subst e
    exact I1.fpOk (Nat.le_refl _) (I1.hok.fresh (Nat.le_refl _))
  · obtain ⟨its, rv, p, hz⟩ := I1.tuple hq
    refine wpAny_pyIter_tuple (show s1.heap.IsTuple a its.toArray from p) ?_
    refine ⟨s1.heap.objs.size, [s1.heap.objs.size], _, _, H1, rfl, I1.kept (t' := s1.toks) fun b o e => Heap.get?_push_of_some _ e, turn_tuple a _, ⟨_, Heap.get?_push_size _ rfl, rfl, rfl⟩, fun b hb => ?_, q hz⟩
    have e : b = s1.heap.objs.size := by simpa using hb
    subst e
    exact I1.fpOk (Nat.le_refl _) (I1.hok.fresh (Nat.le_refl _))
theorem s_seq {tg e : Expr} {x : E} (he : Both X e x) (b : Bool) : PI X tg e (tI X.K (.seq x) b) := by
  refine PI.imp (pi_seq (he.1 b)) fun σ H R ⟨O, H0, A, ρ, ds, ok, ev, q⟩ => ?_
  simp only [evI] at ev
  obtain ⟨r1, e1, ev2⟩ := bind_some ev
  refine ⟨O, H0, A, ρ, r1, ok, e1, fun v1 H1 s1 h1 => ?_⟩
  obtain ⟨fl, d⟩ := r1
  have ok1 := ok.same s1
  have hb : RpBO X.K H1 O (Ow O A) v1 d := rpBO_of ok s1 h1
  have shared : Rp X.K H1 (Ow O A) v1 d → itemsOf d = some ds → ∃ a, v1 = .ref a ∧ ((∃ xs, SqL X.K H1 a xs ∧ (xs.length ≤ sizeLine → R (Itl X.K a) H1)) ∨ (∃ xs, SqT X.K H1 a xs ∧ (xs.length ≤ sizeLine → R (Itt X.K a) H1))) := by
    intro hb ev
    have hkk : ∀ H', KpOf b H1 O (Ow O A) H' → ∀ a o, H1 a = some o → ¬ Ow O A a → H' a = some o := fun H' hk a o e n => by
      refine hk a o e fun z => n ?_
      cases b with
      | true => exact .inl z
      | false => exact z
    cases d <;> try cases ev
    · cases hb with
      | lst h2 h3 h4 => exact ⟨_, rfl, .inl ⟨_, .inl h2, fun hz => q _ H1 s1 (by rw [← h4.length]; exact hz) (wk_list (fun H' hk => rd_keep h2 (hkk H' hk) h3) h4)⟩⟩
    · cases hb with
      | @tup a xs _ h2 h4 =>
        have hq : SqT X.K H1 a xs := by
          rcases h2 with ⟨h2, _⟩ | h2
          · exact .inl (.inl h2)
          · exact .inr h2
        refine ⟨_, rfl, .inr ⟨xs, hq, fun hz => q _ H1 s1 (by rw [← h4.length]; exact hz) (wk_tup (fun H' hk => ?_) h4)⟩⟩
        rcases h2 with ⟨h2, h3⟩ | h2
        · exact .inl (.inl (hkk H' hk _ _ h2 h3))
        · exact .inr h2
  cases b with
  | false => exact shared (ok.down s1 h1.toR) ev2
  | true =>
    rcases hb with hb | ⟨a, xs, es, e1, e2, e3, e4, h⟩
    · exact shared hb ev2
    · have e2 : d = .list es := e2
      subst e1 e2
      cases ev2
      refine ⟨a, rfl, .inl ⟨_, .inl (.inl e3), fun hz => q _ H1 s1 (by rw [← h.length]; exact hz) (wk_list (fun H' hk => .inl (hk a _ e3 e4)) h)⟩⟩
end
end PV

set_option Elab.async false
set_option linter.all false
set_option maxRecDepth 100000
set_option maxHeartbeats 4000000
/-! PV8: ranges, comprehensions; all expressions. -/
namespace PV
open PySem PySem.Spec PyProof.Rows L2
section
variable {X : Cx} {c : Cfg} {k : Nat} {sc : Sc}
theorem evEs_cons {x : E} {xs : Es} {b : Bool} {ρ : Sl} {ds : List PyData} (h : evEs (.cons x xs) b ρ = some ds) : ∃ r es, evE x b ρ = some r ∧ evEs xs b ρ = some es ∧ ds = r.2 :: es := by
  simp only [evEs] at h
  obtain ⟨r, e1, h⟩ := bind_some h
  obtain ⟨es, e2, h⟩ := map_some h
  exact ⟨r, es, e1, e2, h.symm⟩
theorem evEs_nil {b : Bool} {ρ : Sl} {ds : List PyData} (h : evEs .nil b ρ = some ds) : ds = [] := by
  simp only [evEs] at h
  cases h; rfl
theorem smallI_of {i : Int} (h : smallI i = true) : -(2 ^ 62) ≤ i ∧ i < 2 ^ 62 := by
  unfold smallI at h
  rw [Bool.and_eq_true] at h
  have h1 := of_decide_eq_true h.1
  have h2 := of_decide_eq_true h.2
  constructor <;> omega
theorem evRng1 {d : PyData} {ds : List PyData} (h : evRng [d] = some ds) : ∃ i, d = .int i ∧ smallI i = true ∧ lenOk i.toNat = true ∧ ds = rngI 0 i.toNat := by
  cases d <;> try cases h
  rename_i i
  simp only [evRng] at h
  split at h
  · rename_i hc
    rw [Bool.and_eq_true] at hc
    cases h
    exact ⟨i, rfl, hc.1, hc.2, rfl⟩
  · cases h
theorem evRng2 {d e : PyData} {ds : List PyData} (h : evRng [d, e] = some ds) : ∃ i j, d = .int i ∧ e = .int j ∧ smallI i = true ∧ smallI j = true ∧ lenOk (j - i).toNat = true ∧ ds = rngI i (j - i).toNat := by
  cases d <;> cases e <;> try cases h
  rename_i i j
  simp only [evRng] at h
  split at h
  · rename_i hc
    rw [Bool.and_eq_true, Bool.and_eq_true] at hc
    cases h
    exact ⟨i, j, rfl, rfl, hc.1.1, hc.1.2, hc.2, rfl⟩
  · cases h
theorem evRng3 {d e f : PyData} {ds : List PyData} (h : evRng [d, e, f] = some ds) : ∃ i j st, d = .int i ∧ e = .int j ∧ f = .int st ∧ RgC i j st (rngN i j st) ∧ lenOk (rngN i j st) = true ∧ ds = rngS i st (rngN i j st) := by
  cases d <;> cases e <;> cases f <;> try cases h
  rename_i i j st
  simp only [evRng] at h
  split at h
  · rename_i hc
    simp only [Bool.and_eq_true] at hc
    obtain ⟨⟨⟨⟨c1, c2⟩, c3⟩, c4⟩, c5⟩ := hc
    cases h
    exact ⟨i, j, st, rfl, rfl, rfl, ⟨of_decide_eq_true c1, Nat.le_of_ble_eq_true c2, c3, of_decide_eq_true c5⟩, c4, rfl⟩
  · cases h
theorem rngI_len {lo : Int} {n : Nat} : (rngI lo n).length = n := by simp [rngI]
theorem rngS_len {lo st : Int} {n : Nat} : (rngS lo st n).length = n := by simp [rngS]
theorem s_rng {tg e : Expr} {es : List Expr} {xs : Es} {p pos : Pos} (gd : Good c k sc X) (hr : gli sc "range") (h : CEs c sc (e :: es) xs) (hl : es.length ≤ 2) (hs : ∀ b, PA X (e :: es) (tEs X.K xs b)) (b : Bool) : PI X tg (.Call (.Name "range" p) (e :: es) [] pos) (tI X.K (.rng xs) b) := by
  have hg := gd.gl _ hr
  have hm := gd.blt "range" (by decide +kernel)
  match es, hl, h, hs with
  | [], _, .cons _ n .nil, hs =>
    refine PI.imp (pi_range1 hg hm (hs true) (by rw [starEach_cons n]; rfl)) fun σ H R ⟨O, H0, A, ρ, ds, ok, ev, q⟩ => ?_
    simp only [evI] at ev
    obtain ⟨as, e1, ev2⟩ := bind_some ev
    refine ⟨O, H0, A, ρ, as, ok, e1, fun vs H1 s1 hv => ?_⟩
    have hv : RpBs X.K H1 (Ow O A) vs as := hv
    obtain ⟨r, fs, _, e3, rfl⟩ := evEs_cons e1
    cases evEs_nil e3
    obtain ⟨v, rfl, hv1⟩ := one hv
    obtain ⟨i, q1, q2, q3, rfl⟩ := evRng1 ev2
    obtain ⟨b1, b2⟩ := smallI_of q2
    exact ⟨i, by rw [rpB_int hv1 q1], b1, b2, q _ _ s1 (by rw [rngI_len]; exact lenOk_le q3) wk_rng⟩
  | [e2], _, .cons _ n (.cons _ n2 .nil), hs =>
    refine PI.imp (pi_range2 hg hm (hs true) (by rw [starEach_cons n, starEach_cons n2]; rfl) (by rw [starEach_cons n2]; rfl)) fun σ H R ⟨O, H0, A, ρ, ds, ok, ev, q⟩ => ?_
    simp only [evI] at ev
    obtain ⟨as, e1, ev2⟩ := bind_some ev
    refine ⟨O, H0, A, ρ, as, ok, e1, fun vs H1 s1 hv => ?_⟩
    have hv : RpBs X.K H1 (Ow O A) vs as := hv
    obtain ⟨r, fs, _, e3, rfl⟩ := evEs_cons e1
    obtain ⟨r2, fs, _, e4, rfl⟩ := evEs_cons e3
    cases evEs_nil e4
    obtain ⟨v, u, rfl, hv1, hu⟩ := two hv
    obtain ⟨i, j, q1, q2, q3, q4, q5, rfl⟩ := evRng2 ev2
    obtain ⟨b1, b2⟩ := smallI_of q3
    obtain ⟨b3, b4⟩ := smallI_of q4
    exact ⟨i, j, by rw [rpB_int hv1 q1, rpB_int hu q2], ⟨b1, b2, b3, b4⟩, q _ _ s1 (by rw [rngI_len]; exact lenOk_le q5) wk_rng⟩
  | [e2, e3], _, .cons _ n (.cons _ n2 (.cons _ n3 .nil)), hs =>
    refine PI.imp (pi_range3 hg hm (hs true) (by rw [starEach_cons n]) (by rw [starEach_cons n2, starEach_cons n3]; rfl)) fun σ H R ⟨O, H0, A, ρ, ds, ok, ev, q⟩ => ?_
    simp only [evI] at ev
    obtain ⟨as, e1, ev2⟩ := bind_some ev
    refine ⟨O, H0, A, ρ, as, ok, e1, fun vs H1 s1 hv => ?_⟩
    have hv : RpBs X.K H1 (Ow O A) vs as := hv
    obtain ⟨r, fs, _, e3, rfl⟩ := evEs_cons e1
    obtain ⟨r2, fs, _, e4, rfl⟩ := evEs_cons e3
    obtain ⟨r3, fs, _, e5, rfl⟩ := evEs_cons e4
    cases evEs_nil e5
    cases hv with
    | @cons v _ _ _ hv1 t =>
      obtain ⟨u, u2, rfl, hu, hu2⟩ := two t
      obtain ⟨i, j, st, q1, q2, q3, q4, q5, rfl⟩ := evRng3 ev2
      exact ⟨i, j, st, rngN i j st, by rw [rpB_int hv1 q1, rpB_int hu q2, rpB_int hu2 q3], q4, q _ _ s1 (by rw [rngS_len]; exact lenOk_le q5) wk_rngS⟩
  | _ :: _ :: _ :: _, hl, _, _ => exact absurd hl (by simp)
/-- a comprehension's test -/
theorem s_cno : PTs X [] (tC X.K .no) := by
  refine PTs.imp pts_nil fun σ H Q ⟨O, H0, A, ρ, kk, ok, ev, q⟩ => ?_
  simp only [evC] at ev
  cases ev
  exact q H (Same.refl H)
theorem s_cyes {e : Expr} {x : E} (h : Both X e x) : PTs X [e] (tC X.K (.yes x)) := by
  refine PTs.imp (pts_one h.2) fun σ H Q ⟨O, H0, A, ρ, kk, ok, ev, q⟩ => ?_
  simp only [evC] at ev
  exact ⟨O, H0, A, ρ, kk, ok, ev, q⟩
end
/-- a new list D stands by -/
theorem Ok.with {K : PySem.W.Frag} {O : Set0} {H0 H Hc : Hp} {A : Nat → Option Addr} {σ : L2.St} {ρ : Sl} {D : Addr} {acc : List V} (ok : Ok K O H0 A H σ ρ) (s : Same H Hc) (hn : H D = none) (hD : Hc D = some (.lst acc)) :
    Ok K (fun a => O a ∨ a = D) (L2.upd H0 D (.lst acc)) A Hc σ ρ := by
  have nA : ∀ i a, A i = some a → a ≠ D := fun i a e z => by
    obtain ⟨xs, q, -⟩ := ok.dom i a e
    rw [z, hn] at q; cases q
  have sub : ∀ a, Ow (fun a => O a ∨ a = D) A a → Ow O A a ∨ H a = none := fun a z => by
    rcases z with (z | z) | z
    · exact .inl (.inl z)
    · exact .inr (by rw [z]; exact hn)
    · exact .inl (.inr z)
  refine ⟨ok.len, ok.sm, fun a o e => ?_, ok.inj, fun i a e => ?_, fun i a e => ?_, fun a z => ?_, fun i r e => ?_⟩
  · by_cases ha : a = D
    · subst ha
      rw [upd_same] at e
      cases e; exact hD
    · rw [upd_ne ha] at e
      exact s _ _ (ok.grow _ _ e)
  · rw [upd_ne (nA i a e)]; exact ok.new i a e
  · obtain ⟨xs, q, w⟩ := ok.dom i a e
    exact ⟨xs, s _ _ q, w⟩
  · by_cases ha : a = D
    · exact ⟨_, by rw [ha]; exact upd_same, .l acc⟩
    · rcases z with z | z
      · obtain ⟨xs, q, w⟩ := ok.odom a z
        exact ⟨xs, by rw [upd_ne ha]; exact q, w⟩
      · exact absurd z ha
  · obtain ⟨v, e1, h⟩ := ok.val i r e
    exact ⟨v, e1, RpS.keep (fun a o e _ => s a o e) sub (fun j b _ e => ⟨e, fun o q => s b o q⟩) h⟩
section
variable {X : Cx} {c : Cfg} {k : Nat} {sc : Sc}
theorem mem_of_all {l m : List Nat} (h : l.all (fun i => m.contains i) = true) : ∀ i ∈ l, i ∈ m := fun i hi => by
  have := List.all_eq_true.mp h i hi
  simpa using this
theorem compGo_cons {f : PyData → Option (Option PyData)} {d : PyData} {ds ys : List PyData} (h : compGo f (d :: ds) = some ys) : (f d = some none ∧ compGo f ds = some ys) ∨ ∃ y zs, f d = some (some y) ∧ compGo f ds = some zs ∧ ys = y :: zs := by
  unfold compGo at h
  split at h
  · cases h
  · rename_i e; exact .inl ⟨e, h⟩
  · rename_i y e
    split at h
    · cases h
    · rename_i zs e2
      cases h
      exact .inr ⟨y, zs, e, e2, rfl⟩
theorem compGo_len {f : PyData → Option (Option PyData)} : ∀ {ds ys : List PyData}, compGo f ds = some ys → ys.length ≤ ds.length
  | [], ys, h => by cases h; exact Nat.le_refl _
  | d :: ds, ys, h => by
    rcases compGo_cons h with ⟨_, h2⟩ | ⟨y, zs, _, h2, rfl⟩
    · exact Nat.le_succ_of_le (compGo_len h2)
    · exact Nat.succ_le_succ (compGo_len h2)
/-- one item more in the new list -/
theorem acc_more {K : PySem.W.Frag} {H : Hp} {P : Set0} {D : Addr} {acc : List V} {ys : List PyData} {v : V} {y : PyData} (hP : P D) (h : RpA K H P acc ys) (hv : Rp K H P v y) : RpA K (upd H D (.lst (acc ++ [v]))) P (acc ++ [v]) (ys ++ [y]) := by
  refine RpA.keep (fun a o e n => ?_) (fun _ z => .inl z) _ _ (h.append (.one hv))
  rw [upd_ne (fun z => n (by rw [z]; exact hP))]
  exact e
theorem rd_comp {K : PySem.W.Frag} {own : List (Str × Nat)} {g : G} {it : I} {t : Oe} {x : E} (hgs : (gslots g).all (fun i => (own.map (·.2)).contains i) = true) (bb : Bool) (σ : L2.St) (H : Hp) (Q : VK) (hq : tE K (.comp (own.map (·.2)) g it t x) bb σ H Q) :
    tLc (tI K it true) (tG K g) (tC K t) (tE K x false) (own.map (·.2)) σ H Q := by
  obtain ⟨O, H0, A, ρ, r, ok, ev, q⟩ := hq
  simp only [evE] at ev
  obtain ⟨ds, e1, ev⟩ := bind_some ev
  obtain ⟨ys, e2, e3⟩ := map_some ev
  subst e3
  generalize hF : (fun d => (asg g d (wipeR ρ (own.map (·.2)))).bind fun ρ2 => (evC t ρ2).bind fun k => match k with
      | false => some none
      | true => (evE x false ρ2).map fun r => some r.2) = F at e2
  refine ⟨O, H0, A, ρ, ds, ok, e1, fun J H1 s1 hz wk D hD => ?_⟩
  have hn : H D = none := s1.free hD
  refine ⟨fun i m Hc => m = ds.length - i ∧ i ≤ ds.length ∧ ∃ acc ys1 ys2, Hc D = some (.lst acc) ∧ RpA K Hc (fun a => Ow O A a ∨ a = D) acc ys1 ∧ Same H1 Hc ∧ compGo F (ds.drop i) = some ys2 ∧ ys = ys1 ++ ys2,
    ⟨ds.length, rfl, Nat.zero_le _, [], [], ys, upd_same, .nil, same_upd hD, e2, rfl⟩, ?_⟩
  rintro i m Hc ⟨rfl, hil, acc, ys1, ys2, hDc, hr, sm, e4, e5⟩
  by_cases hlt : i < ds.length
  · have hdr : ds.drop i = ds[i] :: ds.drop (i + 1) := List.drop_eq_getElem_cons hlt
    rw [hdr] at e4
    obtain ⟨go, yld⟩ := (wk Hc (KpOf.same sm) i).1 _ (List.getElem?_eq_getElem hlt)
    refine .inr ⟨go, fun H' => ∃ acc ys1 ys2, H' D = some (.lst acc) ∧ RpA K H' (fun a => Ow O A a ∨ a = D) acc ys1 ∧ Same H1 H' ∧ compGo F (ds.drop (i + 1)) = some ys2 ∧ ys = ys1 ++ ys2, fun H' h' => ⟨ds.length - (i + 1), by omega, rfl, hlt, h'⟩, fun v0 H' hy => ?_⟩
    obtain ⟨e6, hx⟩ := yld v0 H' hy
    subst e6
    have okD := ok.with (s1.trans sm) hn hDc
    have okW := okD.wipe (own.map (·.2))
    have hO : ∀ a, Ow (fun a => O a ∨ a = D) A a → Ow O A a ∨ H1 a = none := fun a z => by
      rcases z with (z | z) | z
      · exact .inl (.inl z)
      · exact .inr (by rw [z]; exact hD)
      · exact .inl (.inr z)
    have hx' : Rp K H' (Ow (fun a => O a ∨ a = D) A) v0 ds[i] := Rp.keep (fun a o e _ => sm a o e) hO _ _ hx
    have hFd : ∃ o, F ds[i] = some o ∧ ((o = none ∧ compGo F (ds.drop (i + 1)) = some ys2) ∨ ∃ y zs, o = some y ∧ compGo F (ds.drop (i + 1)) = some zs ∧ ys2 = y :: zs) := by
      rcases compGo_cons e4 with ⟨h1, h2⟩ | ⟨y, zs, h1, h2, h3⟩
      · exact ⟨none, h1, .inl ⟨rfl, h2⟩⟩
      · exact ⟨some y, h1, .inr ⟨y, zs, rfl, h2, h3⟩⟩
    obtain ⟨o, hFo, hoc⟩ := hFd
    rw [← hF] at hFo
    obtain ⟨ρ2, ea, ef⟩ := bind_some hFo
    obtain ⟨kk, ec, ef⟩ := bind_some ef
    refine ⟨_, _, A, _, ρ2, ds[i], okW, hx', ea, fun σ2 ok2 w2 => ⟨?_, ⟨_, _, A, ρ2, kk, ok2, ec, fun H3 s3 => ?_⟩⟩⟩
    · rw [w2 _ (mem_of_all hgs)]
      exact wipe_wipe fun _ h => h
    · cases kk with
      | false =>
        cases ef
        rcases hoc with ⟨_, h2⟩ | ⟨y, zs, h1, _⟩
        · exact ⟨acc, ys1, ys2, s3 _ _ hDc, hr.same s3, sm.trans s3, h2, e5⟩
        · cases h1
      | true =>
        obtain ⟨r', ee, er⟩ := map_some ef
        subst er
        rcases hoc with ⟨h1, _⟩ | ⟨y, zs, h1, h2, h3⟩
        · cases h1
        · cases h1
          subst h3
          refine ⟨_, _, A, ρ2, r', ok2.same s3, ee, fun v H4 s4 h4 => ⟨acc, s4 _ _ (s3 _ _ hDc), ?_, ?_⟩⟩
          · have l1 := compGo_len e2
            have l2 := hr.length
            rw [e5, List.length_append, List.length_cons] at l1
            omega
          · have hv : Rp K H4 (fun a => Ow O A a ∨ a = D) v r'.2 := ((ok2.same s3).down s4 h4.toR).less fun a z => by
              rcases z with (z | z) | z
              · exact .inl (.inl z)
              · exact .inr z
              · exact .inl (.inr z)
            refine ⟨acc ++ [v], ys1 ++ [r'.2], zs, upd_same, acc_more (.inr rfl) ((hr.same s3).same s4) hv, fun a o e => ?_, h2, by rw [e5, List.append_assoc]; rfl⟩
            rw [upd_ne (ne_of_none e hD)]
            exact s4 _ _ (s3 _ _ (sm _ _ e))
  · have hi' : i = ds.length := by omega
    subst hi'
    rw [List.drop_length] at e4
    cases e4
    rw [List.append_nil] at e5
    subst e5
    exact .inl ⟨(wk Hc (KpOf.same sm) _).2 (Nat.le_refl _), q _ Hc (s1.trans sm) ⟨D, acc, ys, rfl, rfl, hDc, hn, hr⟩⟩
theorem s_comp {elt tg iter : Expr} {ifs : List Expr} {scope : Scope} {pos : Pos} {own : List (Str × Nat)} {g : G} {it : I} {t : Oe} {x : E} (gd : Good c k sc X) (hi : ∀ b, PI X tg iter (tI X.K it b)) (hg : CG c scope.names tg g)
    (ht : ∀ {X' : Cx}, Good c k scope.names X' → PTs X' ifs (tC X'.K t)) (he : ∀ {X' : Cx}, Good c k scope.names X' → Both X' elt x)
    (hb : blkC c.N ⟨.function, sc, false, false, []⟩ scope own = true) (hgs : (gslots g).all (fun i => (own.map (·.2)).contains i) = true) (hs : noSet iter = true) (bb : Bool) :
    PE X (.ListComp elt [⟨tg, iter, ifs, 0⟩] scope pos) (tE X.K (.comp (own.map (·.2)) g it t x) bb) := by
  refine PE.imp (pe_lc (wi := tI X.K it true) (g := tG X.K g) (tt := tC X.K t) (te := tE X.K x false) gd.calm (by rw [gd.hN]; exact gd.nd) (hi true) (blk_ok gd hb) (fun s H C cl fp => soundG (good_blk gd hb s H C cl fp) hg) (fun s H C cl fp => ht (good_blk gd hb s H C cl fp)) (fun s H C cl fp => (he (good_blk gd hb s H C cl fp)).1 false)
    (noset_of hs X.env)) (rd_comp hgs bb)
theorem compGo2_cons {f : PyData → Option (List PyData)} {d : PyData} {ds ys : List PyData} (h : compGo2 f (d :: ds) = some ys) : ∃ xs zs, f d = some xs ∧ compGo2 f ds = some zs ∧ ys = xs ++ zs := by
  unfold compGo2 at h
  split at h
  · cases h
  · rename_i xs e
    split at h
    · cases h
    · rename_i zs e2
      cases h
      exact ⟨xs, zs, e, e2, rfl⟩
end
/-- the new list D has grown -/
theorem Ok.redo {K : PySem.W.Frag} {O : Set0} {H0 H Hc : Hp} {A : Nat → Option Addr} {σ : L2.St} {ρ : Sl} {D : Addr} {acc : List V} (ok : Ok K O H0 A H σ ρ) (hO : O D) (s : ∀ a o, a ≠ D → H a = some o → Hc a = some o) (hD : Hc D = some (.lst acc)) :
    Ok K O (L2.upd H0 D (.lst acc)) A Hc σ ρ := by
  obtain ⟨xs0, q0, -⟩ := ok.odom D hO
  have nA : ∀ i a, A i = some a → a ≠ D := fun i a e z => by
    have := ok.new i a e
    rw [z, q0] at this; cases this
  have k : ∀ a o, H a = some o → ¬ Ow O A a → Hc a = some o := fun a o e n => s a o (fun z => n (.inl (by rw [z]; exact hO))) e
  refine ⟨ok.len, ok.sm, fun a o e => ?_, ok.inj, fun i a e => ?_, fun i a e => ?_, fun a z => ?_, fun i r e => ?_⟩
  · by_cases ha : a = D
    · subst ha
      rw [upd_same] at e
      cases e; exact hD
    · rw [upd_ne ha] at e
      exact s _ _ ha (ok.grow _ _ e)
  · rw [upd_ne (nA i a e)]; exact ok.new i a e
  · obtain ⟨xs, q, w⟩ := ok.dom i a e
    exact ⟨xs, s _ _ (nA i a e) q, w⟩
  · by_cases ha : a = D
    · exact ⟨_, by rw [ha]; exact upd_same, .l acc⟩
    · obtain ⟨xs, q, w⟩ := ok.odom a z
      exact ⟨xs, by rw [upd_ne ha]; exact q, w⟩
  · obtain ⟨v, e1, h⟩ := ok.val i r e
    exact ⟨v, e1, RpS.keep k (fun _ z => .inl z) (fun j b _ e => ⟨e, fun o q => s b o (nA j b e) q⟩) h⟩
section
variable {X : Cx} {c : Cfg} {k : Nat} {sc : Sc}
theorem rd_comp2 {K : PySem.W.Frag} {own : List (Str × Nat)} {own1 : List Nat} {g g1 : G} {it it1 : I} {t t1 : Oe} {x : E} (hgs : (gslots g).all (fun i => (own.map (·.2)).contains i) = true) (hgs1 : (gslots g1).all (fun i => own1.contains i) = true) (bb : Bool) (σ : L2.St) (H : Hp) (Q : VK) (hq : tE K (.comp2 (own.map (·.2)) g it t own1 g1 it1 t1 x) bb σ H Q) :
    tLc2 (tI K it true) (tG K g) (tC K t) (tI K it1 true) (tG K g1) (tC K t1) (tE K x false) (own.map (·.2)) own1 σ H Q := by
  obtain ⟨O, H0, A, ρ, r, ok, ev, q⟩ := hq
  simp only [evE] at ev
  obtain ⟨ds, e1, ev⟩ := bind_some ev
  obtain ⟨ys, e2, e3⟩ := bind_some ev
  split at e3
  case isFalse => cases e3
  rename_i hly
  have hly := lenOk_le hly
  cases e3
  generalize hF : (fun d => (asg g d (wipeR ρ (own.map (·.2)))).bind fun ρ2 => (evC t ρ2).bind fun k => match k with
      | false => some []
      | true => (evI it1 true ρ2).bind fun ds1 => compGo (fun d1 => (asg g1 d1 (wipeR ρ2 own1)).bind fun ρ3 => (evC t1 ρ3).bind fun k => match k with
        | false => some none
        | true => (evE x false ρ3).map fun r => some r.2) ds1) = F at e2
  refine ⟨O, H0, A, ρ, ds, ok, e1, fun J H1 s1 hz wk D hD => ?_⟩
  have hn : H D = none := s1.free hD
  refine ⟨fun i m Hc => m = ds.length - i ∧ i ≤ ds.length ∧ ∃ acc ys1 ys2, Hc D = some (.lst acc) ∧ RpA K Hc (fun a => Ow O A a ∨ a = D) acc ys1 ∧ Same H1 Hc ∧ compGo2 F (ds.drop i) = some ys2 ∧ ys = ys1 ++ ys2,
    ⟨ds.length, rfl, Nat.zero_le _, [], [], ys, upd_same, .nil, same_upd hD, e2, rfl⟩, ?_⟩
  rintro i m Hc ⟨rfl, hil, acc, ys1, ys2, hDc, hr, sm, e4, e5⟩
  by_cases hlt : i < ds.length
  · have hdr : ds.drop i = ds[i] :: ds.drop (i + 1) := List.drop_eq_getElem_cons hlt
    rw [hdr] at e4
    obtain ⟨go, yld⟩ := (wk Hc (KpOf.same sm) i).1 _ (List.getElem?_eq_getElem hlt)
    refine .inr ⟨go, fun H' => ∃ acc ys1 ys2, H' D = some (.lst acc) ∧ RpA K H' (fun a => Ow O A a ∨ a = D) acc ys1 ∧ Same H1 H' ∧ compGo2 F (ds.drop (i + 1)) = some ys2 ∧ ys = ys1 ++ ys2, fun H' h' => ⟨ds.length - (i + 1), by omega, rfl, hlt, h'⟩, fun v0 H' hy => ?_⟩
    obtain ⟨e6, hx⟩ := yld v0 H' hy
    subst e6
    have okD := ok.with (s1.trans sm) hn hDc
    have okW := okD.wipe (own.map (·.2))
    have hO : ∀ a, Ow (fun a => O a ∨ a = D) A a → Ow O A a ∨ H1 a = none := fun a z => by
      rcases z with (z | z) | z
      · exact .inl (.inl z)
      · exact .inr (by rw [z]; exact hD)
      · exact .inl (.inr z)
    have hx' : Rp K H' (Ow (fun a => O a ∨ a = D) A) v0 ds[i] := Rp.keep (fun a o e _ => sm a o e) hO _ _ hx
    obtain ⟨xs, zs, hFo, e7, e8⟩ := compGo2_cons e4
    subst e8
    rw [← hF] at hFo
    obtain ⟨ρ2, ea, ef⟩ := bind_some hFo
    obtain ⟨kk, ec, ef⟩ := bind_some ef
    refine ⟨_, _, A, _, ρ2, ds[i], okW, hx', ea, fun σ2 ok2 w2 => ⟨?_, ⟨_, _, A, ρ2, kk, ok2, ec, fun H3 s3 => ?_⟩⟩⟩
    · rw [w2 _ (mem_of_all hgs)]
      exact wipe_wipe fun _ h => h
    · cases kk with
      | false =>
        cases ef
        exact ⟨acc, ys1, zs, s3 _ _ hDc, hr.same s3, sm.trans s3, e7, e5⟩
      | true =>
        obtain ⟨ds1, ei, eg⟩ := bind_some ef
        have eg : compGo (fun d1 => (asg g1 d1 (wipeR ρ2 own1)).bind fun ρ3 => (evC t1 ρ3).bind fun k => match k with
          | false => some none
          | true => (evE x false ρ3).map fun r => some r.2) ds1 = some xs := eg
        generalize hF1 : (fun d1 => (asg g1 d1 (wipeR ρ2 own1)).bind fun ρ3 => (evC t1 ρ3).bind fun k => match k with
          | false => some none
          | true => (evE x false ρ3).map fun r => some r.2) = F1 at eg
        refine ⟨_, _, A, ρ2, ds1, ok2.same s3, ei, fun J1 H4 s4 hz1 wk1 => ?_⟩
        have hD4 : H4 D = some (.lst acc) := s4 _ _ (s3 _ _ hDc)
        refine ⟨fun j m Hc => m = ds1.length - j ∧ j ≤ ds1.length ∧ ∃ acc' yi yj, Hc D = some (.lst acc') ∧ RpA K Hc (fun a => Ow O A a ∨ a = D) acc' (ys1 ++ yi) ∧ (∀ a o, a ≠ D → H4 a = some o → Hc a = some o) ∧ compGo F1 (ds1.drop j) = some yj ∧ xs = yi ++ yj,
          ⟨ds1.length, rfl, Nat.zero_le _, acc, [], xs, hD4, by rw [List.append_nil]; exact (hr.same s3).same s4, fun _ _ _ e => e, eg, rfl⟩, ?_⟩
        rintro j m Hc ⟨rfl, hjl, acc', yi, yj, hDc', hr', sm', e4', e5'⟩
        have sm1 : Same H1 Hc := fun a o e => sm' _ _ (ne_of_none e hD) (s4 _ _ (s3 _ _ (sm _ _ e)))
        have hkp : KpOf true H4 (fun a => O a ∨ a = D) (Ow (fun a => O a ∨ a = D) A) Hc := fun a o e n => sm' a o (fun z => n (.inr z)) e
        by_cases hlt' : j < ds1.length
        · have hdr : ds1.drop j = ds1[j] :: ds1.drop (j + 1) := List.drop_eq_getElem_cons hlt'
          rw [hdr] at e4'
          obtain ⟨go', yld'⟩ := (wk1 Hc hkp j).1 _ (List.getElem?_eq_getElem hlt')
          refine .inr ⟨go', fun H' => ∃ acc' yi yj, H' D = some (.lst acc') ∧ RpA K H' (fun a => Ow O A a ∨ a = D) acc' (ys1 ++ yi) ∧ (∀ a o, a ≠ D → H4 a = some o → H' a = some o) ∧ compGo F1 (ds1.drop (j + 1)) = some yj ∧ xs = yi ++ yj, fun H' h' => ⟨ds1.length - (j + 1), by omega, rfl, hlt', h'⟩, fun v1 H' hy' => ?_⟩
          obtain ⟨e6', hx1⟩ := yld' v1 H' hy'
          subst e6'
          have okR := ((ok2.same s3).same s4).redo (.inr rfl) sm' hDc'
          have okW1 := okR.wipe own1
          have hx1' : Rp K H' (Ow (fun a => O a ∨ a = D) A) v1 ds1[j] := Rp.keep (fun a o e n => sm' a o (fun z => n (.inl (.inr z))) e) (fun _ z => .inl z) _ _ hx1
          have hFd : ∃ o, F1 ds1[j] = some o ∧ ((o = none ∧ compGo F1 (ds1.drop (j + 1)) = some yj) ∨ ∃ y zs, o = some y ∧ compGo F1 (ds1.drop (j + 1)) = some zs ∧ yj = y :: zs) := by
            rcases compGo_cons e4' with ⟨h1, h2⟩ | ⟨y, zs, h1, h2, h3⟩
            · exact ⟨none, h1, .inl ⟨rfl, h2⟩⟩
            · exact ⟨some y, h1, .inr ⟨y, zs, rfl, h2, h3⟩⟩
          obtain ⟨o, hFo1, hoc⟩ := hFd
          rw [← hF1] at hFo1
          obtain ⟨ρ3, ea1, ef1⟩ := bind_some hFo1
          obtain ⟨kk1, ec1, ef1⟩ := bind_some ef1
          refine ⟨_, _, A, _, ρ3, ds1[j], okW1, hx1', ea1, fun σ3 ok3 w3 => ⟨?_, ⟨_, _, A, ρ3, kk1, ok3, ec1, fun H6 s6 => ?_⟩⟩⟩
          · rw [w3 _ (mem_of_all hgs1)]
            exact wipe_wipe fun _ h => h
          · cases kk1 with
            | false =>
              cases ef1
              rcases hoc with ⟨_, h2⟩ | ⟨y, zs', h1, _⟩
              · exact ⟨acc', yi, yj, s6 _ _ hDc', hr'.same s6, fun a o n e => s6 _ _ (sm' a o n e), h2, e5'⟩
              · cases h1
            | true =>
              obtain ⟨r', ee, er⟩ := map_some ef1
              subst er
              rcases hoc with ⟨h1, _⟩ | ⟨y, zs', h1, h2, h3⟩
              · cases h1
              · cases h1
                subst h3
                refine ⟨_, _, A, ρ3, r', ok3.same s6, ee, fun v H7 s7 h7 => ⟨acc', s7 _ _ (s6 _ _ hDc'), ?_, ?_⟩⟩
                · have l2 := hr'.length
                  rw [e5, e5', List.length_append, List.length_append, List.length_append, List.length_cons] at hly
                  rw [List.length_append] at l2
                  omega
                · have hv : Rp K H7 (fun a => Ow O A a ∨ a = D) v r'.2 := ((ok3.same s6).down s7 h7.toR).less fun a z => by
                    rcases z with (z | z) | z
                    · exact .inl (.inl z)
                    · exact .inr z
                    · exact .inl (.inr z)
                  refine ⟨acc' ++ [v], yi ++ [r'.2], zs', upd_same, ?_, fun a o n e => ?_, h2, by rw [e5', List.append_assoc]; rfl⟩
                  · rw [← List.append_assoc]
                    exact acc_more (.inr rfl) ((hr'.same s6).same s7) hv
                  · rw [upd_ne n]
                    exact s7 _ _ (s6 _ _ (sm' a o n e))
        · have hj' : j = ds1.length := by omega
          subst hj'
          rw [List.drop_length] at e4'
          cases e4'
          rw [List.append_nil] at e5'
          subst e5'
          exact .inl ⟨(wk1 Hc hkp _).2 (Nat.le_refl _), acc', ys1 ++ xs, zs, hDc', hr', sm1, e7, by rw [e5, List.append_assoc]⟩
  · have hi' : i = ds.length := by omega
    subst hi'
    rw [List.drop_length] at e4
    cases e4
    rw [List.append_nil] at e5
    subst e5
    exact .inl ⟨(wk Hc (KpOf.same sm) _).2 (Nat.le_refl _), q _ Hc (s1.trans sm) ⟨D, acc, ys, rfl, rfl, hDc, hn, hr⟩⟩
theorem s_comp2 {elt tg iter tg1 iter1 : Expr} {ifs ifs1 : List Expr} {scope : Scope} {pos : Pos} {own : List (Str × Nat)} {own1 : List Nat} {g g1 : G} {it it1 : I} {t t1 : Oe} {x : E} (gd : Good c k sc X) (hi : ∀ b, PI X tg iter (tI X.K it b)) (hg : CG c scope.names tg g)
    (ht : ∀ {X' : Cx}, Good c k scope.names X' → PTs X' ifs (tC X'.K t)) (hi1 : ∀ {X' : Cx}, Good c k scope.names X' → ∀ b, PI X' tg1 iter1 (tI X'.K it1 b)) (hg1 : CG c scope.names tg1 g1) (ht1 : ∀ {X' : Cx}, Good c k scope.names X' → PTs X' ifs1 (tC X'.K t1))
    (he : ∀ {X' : Cx}, Good c k scope.names X' → Both X' elt x)
    (hb : blkC c.N ⟨.function, sc, false, false, []⟩ scope own = true) (hgs : (gslots g).all (fun i => (own.map (·.2)).contains i) = true) (hgs1 : (gslots g1).all (fun i => own1.contains i) = true) (ho1 : own1.all (fun i => (own.map (·.2)).contains i) = true)
    (hs : noSet iter = true) (hs1 : noSet iter1 = true) (bb : Bool) :
    PE X (.ListComp elt [⟨tg, iter, ifs, 0⟩, ⟨tg1, iter1, ifs1, 0⟩] scope pos) (tE X.K (.comp2 (own.map (·.2)) g it t own1 g1 it1 t1 x) bb) := by
  refine PE.imp (pe_lc2 (wi := tI X.K it true) (g := tG X.K g) (tt := tC X.K t) (wi1 := tI X.K it1 true) (g1 := tG X.K g1) (tt1 := tC X.K t1) (te := tE X.K x false) (vs1 := own1) gd.calm (by rw [gd.hN]; exact gd.nd) (hi true) (blk_ok gd hb) (mem_of_all ho1)
    (fun s H C cl fp => soundG (good_blk gd hb s H C cl fp) hg) (fun s H C cl fp => ht (good_blk gd hb s H C cl fp)) (fun s H C cl fp => hi1 (good_blk gd hb s H C cl fp) true) (fun s H C cl fp => soundG (good_blk gd hb s H C cl fp) hg1) (fun s H C cl fp => ht1 (good_blk gd hb s H C cl fp))
    (fun s H C cl fp => (he (good_blk gd hb s H C cl fp)).1 false) (noset_of hs X.env) (fun env => noset_of hs1 env)) (rd_comp2 hgs hgs1 bb)
end
end PV

set_option Elab.async false
set_option linter.all false
set_option maxRecDepth 100000
set_option maxHeartbeats 4000000
/-! PVK: lists of own lists, dicts, tuples of defs: reading. -/
namespace PV
open PySem PySem.Spec PyProof.Rows L2
theorem slot_inv {ρ : Sl} {i : Nat} {q : R} (h : slot ρ i = some q) : ρ[i]? = some (some q) := by
  unfold slot at h
  split at h
  · rename_i e; cases h; exact e
  · cases h
theorem rowsOf_inv {q : R} {rows : List PyData} (h : rowsOf q = some rows) : q = (true, .tuple rows) := by
  unfold rowsOf at h
  split at h
  · cases h; rfl
  · cases h
theorem dictOf_inv {q : R} {tk : Bool × List (PyData × PyData)} (h : dictOf q = some tk) : q = (true, .dict ((.none, .bool tk.1) :: tk.2)) := by
  unfold dictOf at h
  split at h
  · cases h; rfl
  · cases h
theorem asInt_inv {d : PyData} {i : Int} (h : asInt d = some i) : d = .int i := by
  unfold asInt at h
  split at h
  · cases h; rfl
  · cases h
theorem listIt_inv {d : PyData} {ds : List PyData} (h : listIt d = some ds) : d = .list ds := by
  unfold listIt at h
  split at h
  · cases h; rfl
  · cases h
theorem intsOf_map : ∀ ns : List Int, intsOf (ns.map PyData.int) = some ns
  | [] => rfl
  | n :: ns => by
    show (intsOf (ns.map PyData.int)).map (fun l => n :: l) = _
    rw [intsOf_map ns]; rfl
theorem keyI_tup (ns : List Int) : keyI (.tuple (ns.map .int)) = ns := by
  show (intsOf (ns.map PyData.int)).getD [] = ns
  rw [intsOf_map]; rfl
theorem keyOk_tup {k : PyData} (h : keyOk true k = true) : ∃ ns : List Int, k = .tuple (ns.map .int) := by
  unfold keyOk at h
  split at h
  · rename_i ds
    rw [Bool.true_and] at h
    obtain ⟨ns, e⟩ := Option.isSome_iff_exists.mp h
    exact ⟨ns, by rw [intsOf_eq e]⟩
  · cases h
  · cases h
theorem keyOk_int {k : PyData} (h : keyOk false k = true) : ∃ n : Int, k = .int n := by
  unfold keyOk at h
  split at h
  · cases h
  · exact ⟨_, rfl⟩
  · cases h
section
variable {K : PySem.W.Frag} {O P : Set0} {H0 H H1 H2 H' : Hp} {A : Nat → Option Addr} {σ : L2.St} {ρ : Sl}
theorem Ok.deep (ok : Ok K O H0 A H σ ρ) {i : Nat} {rows : List PyData} (h : slot ρ i = some (true, .tuple rows)) : ∃ (a : Addr) (bs : List Addr), A i = some a ∧ σ[i]? = some (some (.ref a)) ∧ H a = some (.lst (bs.map V.ref)) ∧ bs.length = rows.length ∧
    ∀ (k : Nat) (b : Addr) row, bs[k]? = some b → rows[k]? = some row → A (vt i k) = some b ∧ ∃ xs ds, row = .list ds ∧ H b = some (.lst xs) ∧ RpA K H (Ow O A) xs ds := by
  obtain ⟨v, e, a, q1, rfl, bs, q2, q3, q4⟩ := ok.val i _ (slot_inv h)
  exact ⟨a, bs, q1, e, q2, q3, q4⟩
/-- what a dict slot holds -/
theorem Ok.dict (ok : Ok K O H0 A H σ ρ) {i : Nat} {t : Bool} {kvs : List (PyData × PyData)} (h : slot ρ i = some (true, .dict ((.none, .bool t) :: kvs))) : ∃ a, A i = some a ∧ σ[i]? = some (some (.ref a)) ∧
    ((t = true ∧ ∃ ys, H a = some (.dT ys) ∧ KvT K H (Ow O A) ys kvs) ∨ (t = false ∧ ∃ ys, H a = some (.dK ys) ∧ KvK K H (Ow O A) ys kvs)) := by
  obtain ⟨v, e, a, q1, rfl, q2⟩ := ok.val i _ (slot_inv h)
  refine ⟨a, q1, e, ?_⟩
  cases t
  · exact .inr ⟨rfl, q2⟩
  · exact .inl ⟨rfl, q2⟩
theorem inl_inj {m n : List Int} : (m.map Sum.inl : List Key) = n.map Sum.inl ↔ m = n :=
  ⟨fun h => by
    induction m generalizing n with
    | nil => cases n with
      | nil => rfl
      | cons y n => cases h
    | cons x m ih => cases n with
      | nil => cases h
      | cons y n =>
        rw [List.map_cons, List.map_cons] at h
        injection h with h1 h2
        injection h1 with h1
        rw [h1, ih h2], fun h => by rw [h]⟩
theorem KvT.find {ys : List (List Key × V)} {kvs : List (PyData × PyData)} (h : KvT K H P ys kvs) (ns : List Int) : (∃ v d, valV ys (ns.map Sum.inl) = some v ∧ findK kvs (.tuple (ns.map .int)) = some d ∧ Rp K H P v d) ∨ (valV ys (ns.map Sum.inl) = none ∧ findK kvs (.tuple (ns.map .int)) = none) := by
  induction h with
  | nil => exact .inr ⟨rfl, rfl⟩
  | @cons p q ys kvs h t ih =>
    obtain ⟨⟨ms, e1, e2⟩, hr⟩ := h
    by_cases c : ms = ns
    · left
      refine ⟨p.2, q.2, valV_pos (by rw [e1, c]), ?_, hr⟩
      unfold findK keyEq
      rw [List.find?_cons, e2, keyI_tup, keyI_tup, c, decide_eq_true rfl]
      rfl
    · have h1 : valV (p :: ys) (ns.map Sum.inl) = valV ys (ns.map Sum.inl) := valV_neg (by rw [e1]; exact fun z => c (inl_inj.mp z))
      have h2 : findK (q :: kvs) (.tuple (ns.map .int)) = findK kvs (.tuple (ns.map .int)) := by
        unfold findK keyEq
        rw [List.find?_cons, e2, keyI_tup, keyI_tup, decide_eq_false c]
      rw [h1, h2]
      exact ih
theorem KvK.find {ys : List (Key × V)} {kvs : List (PyData × PyData)} (h : KvK K H P ys kvs) (n : Int) : (∃ v d, valV ys (Sum.inl n) = some v ∧ findK kvs (.int n) = some d ∧ Rp K H P v d) ∨ (valV ys (Sum.inl n) = none ∧ findK kvs (.int n) = none) := by
  induction h with
  | nil => exact .inr ⟨rfl, rfl⟩
  | @cons p q ys kvs h t ih =>
    obtain ⟨⟨m, e1, e2⟩, hr⟩ := h
    have kI : ∀ i : Int, keyI (.int i) = [i] := fun _ => rfl
    by_cases c : m = n
    · left
      refine ⟨p.2, q.2, valV_pos (by rw [e1, c]), ?_, hr⟩
      unfold findK keyEq
      rw [List.find?_cons, e2, kI, kI, c, decide_eq_true rfl]
      rfl
    · have h1 : valV (p :: ys) (Sum.inl n) = valV ys (Sum.inl n) := valV_neg (by rw [e1]; exact fun z => c (Sum.inl.inj z))
      have h2 : findK (q :: kvs) (.int n) = findK kvs (.int n) := by
        unfold findK keyEq
        rw [List.find?_cons, e2, kI, kI, decide_eq_false (fun z => c (by injection z))]
      rw [h1, h2]
      exact ih
theorem kV_ints (ns : List Int) : ((ns.map Sum.inl : List Key).map kV) = ns.map V.int := by rw [List.map_map]; rfl
/-- a dict read: DGet -/
theorem dget_of {X : Cx} {a : Addr} {y : V} {t : Bool} {kvs : List (PyData × PyData)} {k : PyData} (key : ∀ a (ns : List Int), ¬ Kt K a (ns.map V.int)) (hk : keyOk t k = true) (hy : RpB K H P y k)
    (hd : (t = true ∧ ∃ ys, H a = some (.dT ys) ∧ KvT K H P ys kvs) ∨ (t = false ∧ ∃ ys, H a = some (.dK ys) ∧ KvK K H P ys kvs)) :
    (∃ v d, DGet H a y (some v) ∧ findK kvs k = some d ∧ Rp K H P v d) ∨ (DGet H a y none ∧ findK kvs k = none) := by
  rcases hd with ⟨rfl, ys, e1, h⟩ | ⟨rfl, ys, e1, h⟩
  · obtain ⟨ns, rfl⟩ := keyOk_tup hk
    have hy : Rp K H P y (.tuple (ns.map .int)) := by
      rcases hy with hy | ⟨a, xs, ds, e1, e2, e3, h⟩
      · exact hy
      · cases e2
    cases hy with
    | @tup b xs _ h1 h2 =>
      have e3 := rpA_int_inv h2
      subst e3
      have hb : H b = some (.tup ((ns.map Sum.inl : List Key).map kV)) := by
        rcases h1 with ⟨h1, -⟩ | h1
        · rw [kV_ints]; exact h1
        · exact absurd h1 (key b ns)
      rcases h.find ns with ⟨v, d, q1, q2, q3⟩ | ⟨q1, q2⟩
      · exact .inl ⟨v, d, by rw [← q1]; exact .t e1 hb, q2, q3⟩
      · exact .inr ⟨by rw [← q1]; exact .t e1 hb, q2⟩
  · obtain ⟨n, rfl⟩ := keyOk_int hk
    have hy := hy.int
    subst hy
    rcases h.find n with ⟨v, d, q1, q2, q3⟩ | ⟨q1, q2⟩
    · exact .inl ⟨v, d, by rw [← q1]; exact DGet.k (k := Sum.inl n) e1, q2, q3⟩
    · exact .inr ⟨by rw [← q1]; exact DGet.k (k := Sum.inl n) e1, q2⟩
/-- a list of own lists, read at a place -/
theorem at_row {bs : List Addr} {rows : List PyData} {j : Int} {row : PyData} (hl : bs.length = rows.length) (e : atI rows j = some row) : ∃ (k : Nat) (b : Addr), ixN rows.length j = some k ∧ bs[k]? = some b ∧ rows[k]? = some row ∧ atI (bs.map V.ref) j = some (.ref b) := by
  unfold atI at e ⊢
  cases q : ixN rows.length j with
  | none => rw [q] at e; cases e
  | some k =>
    rw [q] at e
    have e : rows[k]? = some row := e
    have hk : k < bs.length := by
      obtain ⟨z, -⟩ := List.getElem?_eq_some_iff.mp e
      omega
    refine ⟨k, bs[k], rfl, List.getElem?_eq_getElem hk, e, ?_⟩
    rw [List.length_map, hl, q]
    show (bs.map V.ref)[k]? = _
    rw [List.getElem?_map, List.getElem?_eq_getElem hk]
    rfl
end
section
variable {X : Cx} {c : Cfg} {k : Nat} {sc : Sc}
theorem no_sl {b : Expr} (h : noSlice b = true) : NoSl b := fun o i => by
  cases b <;> first | rfl | cases h
/-- rows[a][b] -/
theorem s_ix2 (gd : Good c k sc X) {x : Str} {px p1 pos : Pos} {i : Nat} {a b : Expr} {xa xb : E} (hi : c.N[i]? = some x) (hv : vis sc x) (hd : (x == ("__debug__" : Str)) = false) (hcd : (x == ("__classdict__" : Str)) = false) (ha : Both X a xa) (hb : Both X b xb) (na : noSlice a = true) (nb : noSlice b = true) (bb : Bool) :
    PE X (.Subscript (.Subscript (.Name x px) a p1) b pos) (tE X.K (.ix2 i xa xb) bb) := by
  refine PE.imp (pe_ix ix_list (pe_ix ix_list (pe_var (i := i) (by rw [gd.hN]; exact hi) (gd.vis hv) hd hcd) (ha.1 true) (plain_ix na)) (hb.1 true) (plain_ix nb)) fun σ H Q ⟨O, H0, A, ρ, r, ok, ev, q⟩ => ?_
  simp only [evE] at ev
  obtain ⟨sl, e1, ev⟩ := bind_some ev
  obtain ⟨rows, e2, ev⟩ := bind_some ev
  obtain ⟨r1, e3, ev⟩ := bind_some ev
  obtain ⟨j, e4, ev⟩ := bind_some ev
  obtain ⟨r2, e5, ev⟩ := bind_some ev
  obtain ⟨row, e6, ev⟩ := bind_some ev
  have := rowsOf_inv e2
  subst this
  obtain ⟨a0, bs, q1, q2, q3, q4, q5⟩ := ok.deep e1
  obtain ⟨m, b0, q6, q7, q8, q9⟩ := at_row q4 e6
  obtain ⟨-, xs, ds, rfl, q11, q12⟩ := q5 m b0 row q7 q8
  refine ⟨.ref a0, q2, O, H0, A, ρ, r1, ok, e3, fun v1 H1 s1 h1 => ⟨a0, _, j, .ref b0, rfl, ?_, .inl (.inl (s1 _ _ q3)), q9, O, H0, A, ρ, r2, ok.same s1, e5, fun v2 H2 s2 h2 => ?_⟩⟩
  · exact rpB_int (rpB_of ok s1 h1) (asInt_inv e4)
  · unfold evIx at ev
    split at ev
    · rename_i ds' l e7 e8
      cases e7
      obtain ⟨d, e9, e10⟩ := map_some ev
      subst e10
      obtain ⟨w, e11, hw⟩ := atI_rp ((q12.same s1).same s2) e9
      exact ⟨b0, xs, l, w, rfl, rpB_int (rpB_of (ok.same s1) s2 h2) e8, .inl (.inl (s2 _ _ (s1 _ _ q11))), e11, q w H2 (s1.trans s2) (RpX.sh hw)⟩
    · rename_i e7 _; cases e7
    · cases ev
/-- d[a] -/
theorem s_mget (gd : Good c k sc X) {x : Str} {px pos : Pos} {i : Nat} {a : Expr} {xa : E} (hdk : c.dk = true) (hi : c.N[i]? = some x) (hv : vis sc x) (hd : (x == ("__debug__" : Str)) = false) (hcd : (x == ("__classdict__" : Str)) = false) (ha : Both X a xa) (na : noSlice a = true) (bb : Bool) :
    PE X (.Subscript (.Name x px) a pos) (tE X.K (.mget i xa) bb) := by
  have hu : X.A.units + 1 < cLine := by have := gd.room.units; omega
  refine PE.imp (pe_dget hu (pe_var (i := i) (by rw [gd.hN]; exact hi) (gd.vis hv) hd hcd) (ha.1 true) (no_sl na)) fun σ H Q ⟨O, H0, A, ρ, r, ok, ev, q⟩ => ?_
  simp only [evE] at ev
  obtain ⟨sl, e1, ev2⟩ := bind_some ev
  obtain ⟨⟨t, kvs⟩, e2, ev3⟩ := bind_some ev2
  obtain ⟨r1, e3, ev4⟩ := bind_some ev3
  have := dictOf_inv e2
  subst this
  split at ev4
  · rename_i hk
    obtain ⟨d, e4, e5⟩ := map_some ev4
    subst e5
    obtain ⟨a0, q1, q2, -⟩ := ok.dict e1
    refine ⟨.ref a0, q2, O, H0, A, ρ, r1, ok, e3, fun v1 H1 s1 h1 => ?_⟩
    obtain ⟨a1, w1, w2, w3⟩ := (ok.same s1).dict e1
    have : a1 = a0 := by rw [q1] at w1; exact (Option.some.inj w1).symm
    subst this
    rcases dget_of (X := X) (gd.key hdk) hk (rpB_of ok s1 h1) w3 with ⟨v, d', g1, g2, g3⟩ | ⟨g1, g2⟩
    · rw [e4] at g2
      cases g2
      exact ⟨a1, v, rfl, g1, q v H1 s1 (RpX.sh g3)⟩
    · rw [e4] at g2; cases g2
  · cases ev4
/-- a in d -/
theorem s_min (gd : Good c k sc X) {x : Str} {px pos : Pos} {i : Nat} {a : Expr} {xa : E} (hdk : c.dk = true) (hi : c.N[i]? = some x) (hv : vis sc x) (hd : (x == ("__debug__" : Str)) = false) (hcd : (x == ("__classdict__" : Str)) = false) (ha : Both X a xa) :
    Both X (.Compare a [.In] [.Name x px] pos) (.min i xa) := by
  have hu : X.A.units + 1 < cLine := by have := gd.room.units; omega
  have hc := pc_din hu (ha.1 true) (pe_var (pos := px) (i := i) (by rw [gd.hN]; exact hi) (gd.vis hv) hd hcd)
  have go : ∀ {σ : L2.St} {H : Hp} {O : Set0} {H0 : Hp} {A : Nat → Option Addr} {ρ : Sl} {r : R}, Ok X.K O H0 A H σ ρ → evE (.min i xa) true ρ = some r → ∃ kk : Bool, r = (false, .bool kk) ∧ ∀ Q : VK, (∀ H', Same H H' → Q (.bl kk) H') → tDIn (tE X.K xa true) (tVar i) σ H Q := fun {σ H O H0 A ρ r} ok ev => by
    simp only [evE] at ev
    obtain ⟨r1, e3, ev2⟩ := bind_some ev
    obtain ⟨sl, e1, ev3⟩ := bind_some ev2
    obtain ⟨⟨t, kvs⟩, e2, ev4⟩ := bind_some ev3
    have := dictOf_inv e2
    subst this
    split at ev4
    · rename_i hk
      cases ev4
      refine ⟨_, rfl, fun Q q => ?_⟩
      refine ⟨O, H0, A, ρ, r1, ok, e3, fun v1 H1 s1 h1 => ?_⟩
      obtain ⟨a1, w1, w2, w3⟩ := (ok.same s1).dict e1
      refine ⟨.ref a1, w2, a1, ?_⟩
      rcases dget_of (X := X) (gd.key hdk) hk (rpB_of ok s1 h1) w3 with ⟨v, d', g1, g2, g3⟩ | ⟨g1, g2⟩
      · refine ⟨_, rfl, g1, ?_⟩
        have := q H1 s1
        rw [g2] at this
        exact this
      · refine ⟨_, rfl, g1, ?_⟩
        have := q H1 s1
        rw [g2] at this
        exact this
    · cases ev4
  refine ⟨fun bb => PE.imp (pe_cmp hc rfl) fun σ H Q ⟨O, H0, A, ρ, r, ok, ev, q⟩ => ?_, PT.imp (pt_cmp hc rfl) fun σ H Q ⟨O, H0, A, ρ, kk, ok, ev, q⟩ => ?_⟩
  · obtain ⟨kk, rfl, g⟩ := go ok (show evE (.min i xa) true ρ = some r from ev)
    exact g Q fun H' s => q _ H' s rpX_bl
  · obtain ⟨r, ev, e9⟩ := evT_inv ev
    obtain ⟨k2, rfl, g⟩ := go ok ev
    cases e9
    exact g _ fun H' s => ⟨_, rfl, q H' s⟩
theorem s_mnot (gd : Good c k sc X) {x : Str} {px pos : Pos} {i : Nat} {a : Expr} {xa : E} (hdk : c.dk = true) (hi : c.N[i]? = some x) (hv : vis sc x) (hd : (x == ("__debug__" : Str)) = false) (hcd : (x == ("__classdict__" : Str)) = false) (ha : Both X a xa) :
    Both X (.Compare a [.NotIn] [.Name x px] pos) (.mnot i xa) := by
  have hu : X.A.units + 1 < cLine := by have := gd.room.units; omega
  have hc := pc_dnotin hu (ha.1 true) (pe_var (pos := px) (i := i) (by rw [gd.hN]; exact hi) (gd.vis hv) hd hcd)
  have go : ∀ {σ : L2.St} {H : Hp} {O : Set0} {H0 : Hp} {A : Nat → Option Addr} {ρ : Sl} {r : R}, Ok X.K O H0 A H σ ρ → evE (.mnot i xa) true ρ = some r → ∃ kk : Bool, r = (false, .bool kk) ∧ ∀ Q : VK, (∀ H', Same H H' → Q (.bl kk) H') → tDNotIn (tE X.K xa true) (tVar i) σ H Q := fun {σ H O H0 A ρ r} ok ev => by
    simp only [evE] at ev
    obtain ⟨r1, e3, ev2⟩ := bind_some ev
    obtain ⟨sl, e1, ev3⟩ := bind_some ev2
    obtain ⟨⟨t, kvs⟩, e2, ev4⟩ := bind_some ev3
    have := dictOf_inv e2
    subst this
    split at ev4
    · rename_i hk
      cases ev4
      refine ⟨_, rfl, fun Q q => ?_⟩
      refine ⟨O, H0, A, ρ, r1, ok, e3, fun v1 H1 s1 h1 => ?_⟩
      obtain ⟨a1, w1, w2, w3⟩ := (ok.same s1).dict e1
      refine ⟨.ref a1, w2, a1, ?_⟩
      rcases dget_of (X := X) (gd.key hdk) hk (rpB_of ok s1 h1) w3 with ⟨v, d', g1, g2, g3⟩ | ⟨g1, g2⟩
      · refine ⟨_, rfl, g1, ?_⟩
        have := q H1 s1
        rw [g2] at this
        exact this
      · refine ⟨_, rfl, g1, ?_⟩
        have := q H1 s1
        rw [g2] at this
        exact this
    · cases ev4
  refine ⟨fun bb => PE.imp (pe_cmp hc rfl) fun σ H Q ⟨O, H0, A, ρ, r, ok, ev, q⟩ => ?_, PT.imp (pt_cmp hc rfl) fun σ H Q ⟨O, H0, A, ρ, kk, ok, ev, q⟩ => ?_⟩
  · obtain ⟨kk, rfl, g⟩ := go ok (show evE (.mnot i xa) true ρ = some r from ev)
    exact g Q fun H' s => q _ H' s rpX_bl
  · obtain ⟨r, ev, e9⟩ := evT_inv ev
    obtain ⟨k2, rfl, g⟩ := go ok ev
    cases e9
    exact g _ fun H' s => ⟨_, rfl, q H' s⟩
/-- T[a](..), T a tuple of defs -/
theorem arm_call_sub (v i : Expr) (p : Pos) (args : List Expr) (keywords : List Keyword) (pos : Pos) (env : Env) : eval (.Call (.Subscript v i p) args keywords pos) env = (do
    callWith pos (← eval (.Subscript v i p) env) [] (backTo pos (starEach args env)) (backToKw pos (keywordEach keywords env))) := rfl
theorem s_callT (gd : Good c k sc X) {x : Str} {px p1 pos : Pos} {fs : List Fn} {a e : Expr} {es : List Expr} {xa : E} {xs : Es} (hg : gli sc x) (hc : c.cut x = some fs) (hd : (x == ("__debug__" : Str)) = false) (ha : Both X a xa) (na : noSlice a = true) (n : noStar e = true) (ns : (backTo pos (starEach es X.env)).any (·.1) = false)
    (hs : ∀ b, PA X (e :: es) (tEs X.K xs b)) (bb : Bool) : PE X (.Call (.Subscript (.Name x px) a p1) (e :: es) [] pos) (tE X.K (.callT fs xa xs) bb) := by
  obtain ⟨a0, gs, hm, hK, hl, hF⟩ := gd.cuts x fs hc
  refine ⟨fun pins s σ H Q I ⟨O, H0, A, ρ, r, ok, ev, q⟩ => ?_⟩
  simp only [evE] at ev
  obtain ⟨r1, e1, ev⟩ := bind_some ev
  obtain ⟨j, e2, ev⟩ := bind_some ev
  obtain ⟨f, e3, ev⟩ := bind_some ev
  obtain ⟨ds, e4, ev⟩ := bind_some ev
  have at2 : ∃ (m : Nat) (g : Addr), gs[m]? = some g ∧ fs[m]? = some f ∧ atI (gs.map V.ref) j = some (.ref g) := by
    unfold atI at e3 ⊢
    cases w : ixN fs.length j with
    | none => rw [w] at e3; cases e3
    | some m =>
      rw [w] at e3
      have e3 : fs[m]? = some f := e3
      have hk : m < gs.length := by
        obtain ⟨z, -⟩ := List.getElem?_eq_some_iff.mp e3
        omega
      refine ⟨m, gs[m], List.getElem?_eq_getElem hk, e3, ?_⟩
      rw [List.length_map, hl, w]
      show (gs.map V.ref)[m]? = _
      rw [List.getElem?_map, List.getElem?_eq_getElem hk]
      rfl
  obtain ⟨m, g, w1, w2, w3⟩ := at2
  obtain ⟨kp, fd, ps, hb, F⟩ := hF m g f w1 w2
  rw [arm_call_sub]
  refine wpAny_bind (thn ((pe_ix ix_tup (pe_glob (v := .ref a0) (gd.gl x hg) hm rfl hd) (ha.1 true) (plain_ix na)).run pins s σ H (fun v H1 => v = .ref g ∧ Same H H1) I ?_) fun u s1 ⟨v, H1, I1, rv, q1⟩ => ?_)
  · exact ⟨O, H0, A, ρ, r1, ok, e1, fun v1 H1 s1 h1 => ⟨a0, _, j, .ref g, rfl, rpB_int (rpB_of ok s1 h1) (asInt_inv e2), .inr hK, w3, rfl, s1⟩⟩
  · obtain ⟨rfl, s1'⟩ := q1
    cases rv
    refine PySem.W.callWith_K (h₀ := X.base) I1.ok.mod.kin kp (thn ((hs false).run pos pins s1 σ H1 _ I1 ⟨O, H0, A, ρ, ds, ok.same s1', e4, fun vs H2 s2 hv => ?_⟩) fun us s2 ⟨vs, H2, I2, rr, qq⟩ => ⟨I2.kIn, run_fnG F gd.still gd.room hb I2 rr qq⟩) (starEach_cons n) ns
    have hv : RpA X.K H2 (Ow O A) vs ds := hv
    exact ⟨Ow O A, ds, r, fun a z => ((ok.same s1').same s2).own_lst z, hv, ev, fun v H3 s3 h3 => q v H3 (s1'.trans (s2.trans s3)) (RpX.up (s1'.trans s2) h3.toX)⟩
end
end PV

set_option Elab.async false
set_option linter.all false
set_option maxRecDepth 100000
set_option maxHeartbeats 4000000
/-! PV9: all expressions. -/
namespace PV
open PySem PySem.Spec PyProof.Rows L2
section
variable {c : Cfg} {k : Nat}
theorem attr_plain {o : Expr} {f : Str} {env : Env} (h : noStar o = true) (hc : notCall o = true) : attributeBase o f env (eval o env) = eval o env := by
  cases o <;> first | rfl | cases hc
/-- x.index(y) -/
theorem s_index {X : Cx} {sc : Sc} {o e : Expr} {apos cpos : Pos} {x y : E} (gd : Good c k sc X) (ho : Both X o x) (he : Both X e y) (hl : (apos.endLine == cpos.line) = true) (hc : notCall o = true) (n : noStar o = true) (ne : noStar e = true) (bb : Bool) :
    PE X (.Call (.Attribute o "index" apos) [e] [] cpos) (tE X.K (.bi .index (.cons x (.cons y .nil))) bb) := by
  have hu : X.A.units + 65 < cLine := by have := gd.room.un; omega
  have h1 : starEach [e] X.env = (false, eval e X.env) :: starEach [] X.env := starEach_cons ne
  refine PE.imp (pe_bm PySem.F.plainAttrs_list PySem.F.slot_list_index PySem.F.type_list_index (mt_indexP hu) (ho.1 true) (pa_cons (he.1 true) pa_nil h1) (attr_plain n hc) (by rw [h1]; rfl) hl h1 rfl) fun σ H Q ⟨O, H0, A, ρ, r, ok, ev, q⟩ => ?_
  simp only [evE] at ev
  obtain ⟨ds, e1, ev2⟩ := bind_some ev
  obtain ⟨r1, fs, e2, e3, rfl⟩ := evEs_cons e1
  obtain ⟨r2, fs, e4, e5, rfl⟩ := evEs_cons e3
  cases evEs_nil e5
  refine ⟨O, H0, A, ρ, r1, ok, e2, fun v1 H1 s1 h1 => ⟨?_, ⟨O, H0, A, ρ, r2, ok.same s1, e4, fun v2 H2 s2 h2 => ?_⟩⟩⟩
  · -- it is a list
    have hb := rpB_of ok s1 h1
    obtain ⟨fl, d⟩ := r1
    cases d <;> try cases ev2
    obtain ⟨a, xs, rfl, hr, _⟩ := hb.list
    exact .inl ⟨rfl, xs, .inl hr⟩
  · exact ⟨Ow O A, _, r, fun a z => ((ok.same s1).same s2).own_some z, .cons ((rpB_of ok s1 h1).same s2) (.cons (rpB_of (ok.same s1) s2 h2) .nil), ev2, fun v H' s3 h3 => q v H' (s1.trans (s2.trans s3)) (RpX.up (s1.trans s2) h3.toX)⟩
/-- x.count(y) -/
theorem s_count {X : Cx} {sc : Sc} {o e : Expr} {apos cpos : Pos} {x y : E} (gd : Good c k sc X) (ho : Both X o x) (he : Both X e y) (hl : (apos.endLine == cpos.line) = true) (hc : notCall o = true) (n : noStar o = true) (ne : noStar e = true) (bb : Bool) :
    PE X (.Call (.Attribute o "count" apos) [e] [] cpos) (tE X.K (.bi .count (.cons x (.cons y .nil))) bb) := by
  have hu : X.A.units + 65 < cLine := by have := gd.room.un; omega
  have h1 : starEach [e] X.env = (false, eval e X.env) :: starEach [] X.env := starEach_cons ne
  refine PE.imp (pe_bm PySem.F.plainAttrs_list PySem.F.slot_list_count PySem.F.type_list_count (mt_countP hu) (ho.1 true) (pa_cons (he.1 true) pa_nil h1) (attr_plain n hc) (by rw [h1]; rfl) hl h1 rfl) fun σ H Q ⟨O, H0, A, ρ, r, ok, ev, q⟩ => ?_
  simp only [evE] at ev
  obtain ⟨ds, e1, ev2⟩ := bind_some ev
  obtain ⟨r1, fs, e2, e3, rfl⟩ := evEs_cons e1
  obtain ⟨r2, fs, e4, e5, rfl⟩ := evEs_cons e3
  cases evEs_nil e5
  refine ⟨O, H0, A, ρ, r1, ok, e2, fun v1 H1 s1 h1 => ⟨?_, ⟨O, H0, A, ρ, r2, ok.same s1, e4, fun v2 H2 s2 h2 => ?_⟩⟩⟩
  · have hb := rpB_of ok s1 h1
    obtain ⟨fl, d⟩ := r1
    cases d <;> try cases ev2
    obtain ⟨a, xs, rfl, hr, _⟩ := hb.list
    exact .inl ⟨rfl, xs, .inl hr⟩
  · exact ⟨Ow O A, _, r, fun a z => ((ok.same s1).same s2).own_some z, .cons ((rpB_of ok s1 h1).same s2) (.cons (rpB_of (ok.same s1) s2 h2) .nil), ev2, fun v H' s3 h3 => q v H' (s1.trans (s2.trans s3)) (RpX.up (s1.trans s2) h3.toX)⟩
/-- list(range(..)) -/
theorem rgV_rng {a b : Int} : ∀ {K : PySem.W.Frag} {H : Hp} {O : Set0}, RpA K H O (rgV a b) (rngI a (b - a).toNat) := by
  intro K H O
  have e : rngI a (b - a).toNat = ((List.range (b - a).toNat).map fun (i : Nat) => a + (i : Int)).map PyData.int := by unfold rngI; rw [List.map_map]; rfl
  have e2 : rgV a b = ((List.range (b - a).toNat).map fun (i : Nat) => a + (i : Int)).map V.int := by unfold rgV; rw [List.map_map]; rfl
  rw [e, e2]
  exact rpA_ints
theorem rgOk_of {a b : Int} (h1 : smallI a = true) (h2 : smallI b = true) (h3 : lenOk (b - a).toNat = true) : RgOk a b := by
  have h3 : (b - a).toNat ≤ sizeLine := lenOk_le h3
  rw [sizeLine_eq] at h3
  unfold smallI at h1 h2
  simp only [Bool.and_eq_true, decide_eq_true_eq] at h1 h2
  refine ⟨by omega, by omega, by omega, by omega, by omega⟩
theorem s_rngl1 {X : Cx} {sc : Sc} {e : Expr} {p p2 pos q : Pos} {x : E} (gd : Good c k sc X) (hg : gli sc "list") (hg2 : gli sc "range") (he : Both X e x) (n : noStar e = true) (bb : Bool) :
    PE X (.Call (.Name "list" p) [.Call (.Name "range" p2) [e] [] q] [] pos) (tE X.K (.rngl (.cons x .nil)) bb) := by
  refine PE.imp (pe_listRg gd.calm (gd.gl _ hg) (gd.blt "list" (by decide +kernel)) (prg_1 (gd.gl _ hg2) (gd.blt "range" (by decide +kernel)) (he.1 true) (starEach_cons n)) (starEach_cons rfl)) fun σ H Q ⟨O, H0, A, ρ, r, ok, ev, qq⟩ => ?_
  simp only [evE] at ev
  obtain ⟨ds, e1, ev2⟩ := bind_some ev
  obtain ⟨l, e3, e4⟩ := map_some ev2
  subst e4
  obtain ⟨r1, fs, e2, e5, rfl⟩ := evEs_cons e1
  cases evEs_nil e5
  obtain ⟨i, q1, q2, q3, rfl⟩ := evRng1 e3
  refine ⟨O, H0, A, ρ, r1, ok, e2, fun v H1 s1 hv => ?_⟩
  have hv := rpB_int (rpB_of ok s1 hv) q1
  refine ⟨i, hv, rgOk_of (by decide) q2 (by simpa using q3), fun a ha => ?_⟩
  have g := Gives.new (P := Ow O A) (Q := Q) (ds := rngI 0 i.toNat) (xs := rgV 0 i) (fun a z => (ok.same s1).own_some z) (fun v H2 s2 h2 => qq v H2 (s1.trans s2) (RpX.up s1 h2.toX)) (by have := rgV_rng (a := 0) (b := i) (K := X.K) (H := H1) (O := Ow O A); rwa [Int.sub_zero] at this)
  exact g a ha
theorem s_rngl2 {X : Cx} {sc : Sc} {e f : Expr} {p p2 pos q : Pos} {x y : E} (gd : Good c k sc X) (hg : gli sc "list") (hg2 : gli sc "range") (he : Both X e x) (n : noStar e = true) (hf : Both X f y) (m : noStar f = true) (bb : Bool) :
    PE X (.Call (.Name "list" p) [.Call (.Name "range" p2) [e, f] [] q] [] pos) (tE X.K (.rngl (.cons x (.cons y .nil))) bb) := by
  refine PE.imp (pe_listRg gd.calm (gd.gl _ hg) (gd.blt "list" (by decide +kernel)) (prg_2 (gd.gl _ hg2) (gd.blt "range" (by decide +kernel)) (he.1 true) (hf.1 true) (starEach_cons n) (starEach_cons m) (by rw [starEach_cons m]; rfl)) (starEach_cons rfl)) fun σ H Q ⟨O, H0, A, ρ, r, ok, ev, qq⟩ => ?_
  simp only [evE] at ev
  obtain ⟨ds, e1, ev2⟩ := bind_some ev
  obtain ⟨l, e3, e4⟩ := map_some ev2
  subst e4
  obtain ⟨r1, fs, e2, e5, rfl⟩ := evEs_cons e1
  obtain ⟨r2, fs, e6, e7, rfl⟩ := evEs_cons e5
  cases evEs_nil e7
  obtain ⟨i, j, q1, q2, q3, q4, q5, rfl⟩ := evRng2 e3
  refine ⟨O, H0, A, ρ, r1, ok, e2, fun v H1 s1 hv => ⟨O, H0, A, ρ, r2, ok.same s1, e6, fun v2 H2 s2 hv2 => ?_⟩⟩
  have hv := rpB_int (rpB_of ok s1 hv) q1
  have hv2 := rpB_int (rpB_of (ok.same s1) s2 hv2) q2
  refine ⟨i, j, hv, hv2, rgOk_of q3 q4 q5, fun a ha => ?_⟩
  have g := Gives.new (P := Ow O A) (Q := Q) (ds := rngI i (j - i).toNat) (xs := rgV i j) (fun a z => ((ok.same s1).same s2).own_some z) (fun v H3 s3 h3 => qq v H3 (s1.trans (s2.trans s3)) (RpX.up (s1.trans s2) h3.toX)) rgV_rng
  exact g a ha
/-- sorted(set(x)) -/
theorem s_sset {X : Cx} {sc : Sc} {e : Expr} {p p2 pos q : Pos} {x : E} (gd : Good c k sc X) (hg : gli sc "sorted") (hg2 : gli sc "set") (he : Both X e x) (n : noStar e = true) (bb : Bool) :
    PE X (.Call (.Name "sorted" p) [.Call (.Name "set" p2) [e] [] q] [] pos) (tE X.K (.bi .sortedSet (.cons x .nil)) bb) := by
  have h1 : starEach [e] X.env = (false, eval e X.env) :: starEach [] X.env := starEach_cons n
  have hi := pe_callTy (p := p2) (pos := q) (call_setP gd.calm) (gd.gl _ hg2) (gd.blt "set" (by decide +kernel)) PyProof.Rows.boot_set (pa_cons (he.1 true) pa_nil h1) (by decide +kernel) (by decide +kernel) h1 rfl
  have ho := pe_callB (cr_sortedSet gd.calm) (gd.gl _ hg) (gd.blt "sorted" (by decide +kernel)) PyProof.Rows.boot_sorted (pa_cons hi pa_nil rfl) (by decide +kernel) (by decide +kernel) rfl rfl (p := p) (pos := pos)
  refine PE.imp ho fun σ H Q ⟨O, H0, A, ρ, r, ok, ev, qq⟩ => ?_
  simp only [evE] at ev
  obtain ⟨ds, e1, ev2⟩ := bind_some ev
  obtain ⟨r1, fs, e2, e3, rfl⟩ := evEs_cons e1
  cases evEs_nil e3
  obtain ⟨fl, d⟩ := r1
  cases d <;> try cases ev2
  rename_i dl
  obtain ⟨ns, i1, i2⟩ := bind_some (show (intsOf dl).bind (fun l => if Nat.blt l.length 64 then some (true, PyData.list ((sortI (dedupI l)).map PyData.int)) else none) = some r from ev2)
  split at i2
  case isFalse => cases i2
  rename_i hz
  cases i2
  refine ⟨O, H0, A, ρ, _, ok, e2, fun v H1 s1 hv => ⟨Ow O A, dl, ns, .cons (rpB_of ok s1 hv) .nil, i1, Nat.le_of_ble_eq_true hz, fun a m ha hm => ⟨a, _, m, rfl, upd_same, hm, fun zs a2 hs hx hl hn => ?_⟩⟩⟩
  have ez : zs = sortI (dedupI ns) := setI_eq hs fun y => by rw [hx y, decide_eq_true_eq]
  have s2 := s1.trans ((same_upd ha).trans (same_upd (o := HO.lst (zs.map V.int)) hn))
  have hf : H a2 = none := s1.free ((same_upd ha).free hn)
  refine qq _ _ s2 (RpR.toX (P := Ow O A) ⟨a2, _, _, rfl, rfl, upd_same, hf, ?_⟩)
  rw [ez]
  exact rpA_ints
mutual
theorem soundE : ∀ {sc : Sc} {e : Expr} {x : E}, CE c sc e x → ∀ {X : Cx}, Good c k sc X → Both X e x
  | _, _, _, .name (i := i) h1 h2 h3 h4, X, gd => both_plain (fun b => PE.imp (pe_var (i := i) (by rw [gd.hN]; exact h1) (gd.vis h2) h3 h4) fun σ H Q ⟨O, H0, A, ρ, r, ok, ev, q⟩ => by
      obtain ⟨v, e1, h⟩ := slot_val ok ev
      exact ⟨v, e1, q v H (Same.refl H) h⟩) fun _ => rfl
  | _, _, _, .const h1 h2 h3, X, gd => by
    obtain ⟨u, v, hm, r, hr⟩ := gd.csts _ _ h2
    refine both_plain (fun b => PE.imp (pe_glob (gd.gl _ h1) hm r h3) fun σ H Q ⟨O, H0, A, ρ, r, ok, ev, q⟩ => ?_) fun _ => rfl
    simp only [evE] at ev
    cases ev
    exact q v H (Same.refl H) (RpX.sh (hr H _))
  | _, _, _, .int, X, gd => both_plain (fun b => PE.imp pe_int fun σ H Q ⟨O, H0, A, ρ, r, ok, ev, q⟩ => by
      simp only [evE] at ev; cases ev; exact q _ H (Same.refl H) (RpX.sh (.int _))) fun _ => rfl
  | _, _, _, .bool, X, gd => both_plain (fun b => PE.imp pe_bl fun σ H Q ⟨O, H0, A, ρ, r, ok, ev, q⟩ => by
      simp only [evE] at ev; cases ev; exact q _ H (Same.refl H) (RpX.sh (.bl _))) fun _ => rfl
  | _, _, _, .none, X, gd => both_plain (fun b => PE.imp pe_non fun σ H Q ⟨O, H0, A, ρ, r, ok, ev, q⟩ => by
      simp only [evE] at ev; cases ev; exact q _ H (Same.refl H) (RpX.sh .non)) fun _ => rfl
  | _, _, _, .str, X, gd => both_plain (fun b => PE.imp pe_str fun σ H Q ⟨O, H0, A, ρ, r, ok, ev, q⟩ => by
      simp only [evE] at ev; cases ev; exact q _ H (Same.refl H) (RpX.sh (.str _))) fun _ => rfl
  | _, _, _, .bin h1 h2, X, gd => both_plain (s_bin (soundE h1 gd) (soundE h2 gd)) fun _ => rfl
  | _, _, _, .neg h1, X, gd => both_plain (s_neg (soundE h1 gd)) fun _ => rfl
  | _, _, _, .cmp h1 h2 hm, X, gd => s_cmp gd.room.units (soundE h1 gd) (soundE h2 gd) hm
  | _, _, _, .chain h1 h2 h3 hm, X, gd => s_chain gd.room.units (soundE h1 gd) (soundE h2 gd) (soundE h3 gd) hm
  | _, _, _, .and h, X, gd => ⟨(soundA h gd).1, (soundA h gd).2.pt⟩
  | _, _, _, .or h, X, gd => ⟨(soundO h gd).1, (soundO h gd).2.pt⟩
  | _, _, _, .not h1, X, gd => s_not (soundE h1 gd)
  | _, _, _, .ite h1 h2 h3, X, gd => ⟨s_ite (soundE h1 gd) (soundE h2 gd) (soundE h3 gd), s_iteT (soundE h1 gd) (soundE h2 gd) (soundE h3 gd)⟩
  | _, _, _, .tup h, X, gd => both_plain (s_tup (soundEs h gd)) fun _ => rfl
  | _, _, _, .lst h, X, gd => both_plain (s_lst (soundEs h gd)) fun _ => rfl
  | _, _, _, .ix h1 h2 n, X, gd => both_plain (s_ix (soundE h1 gd) (soundE h2 gd) n) fun _ => rfl
  | _, _, _, .sl h1 h2 h3, X, gd => both_plain (s_sl (soundE h1 gd) (soundP h2 gd) (soundP h3 gd)) fun _ => rfl
  | _, _, _, .call h1 h2 h3 (.cons he n hs), X, gd => both_plain (s_call gd h1 h2 h3 n (ces_star hs _ _) (s_cons (soundE he gd) n (soundEs hs gd))) fun _ => rfl
  | _, _, _, .call0 h1 h2 h3, X, gd => both_plain (s_call0 gd h1 h2 h3) fun _ => rfl
  | _, _, _, .rev h1, X, gd => both_plain (s_rev (soundE h1 gd)) fun _ => rfl
  | _, _, _, .rngl1 h1 h2 he n, X, gd => both_plain (s_rngl1 gd h1 h2 (soundE he gd) n) fun _ => rfl
  | _, _, _, .rngl2 h1 h2 he n hf m, X, gd => both_plain (s_rngl2 gd h1 h2 (soundE he gd) n (soundE hf gd) m) fun _ => rfl
  | _, _, _, .count h1 h2 hl hc n ne, X, gd => both_plain (s_count gd (soundE h1 gd) (soundE h2 gd) hl hc n ne) fun _ => rfl
  | _, _, _, .bi h1 h2 (.cons he n hs), X, gd => both_plain (s_bi gd h1 h2 n (ces_star hs _ _) (s_cons (soundE he gd) n (soundEs hs gd))) fun _ => rfl
  | _, _, _, .sset h1 h2 he n, X, gd => both_plain (s_sset gd h1 h2 (soundE he gd) n) fun _ => rfl
  | _, _, _, .is h1 h2 h3 he n, X, gd => both_plain (s_is gd h1 h2 h3 (soundE he gd) n) fun _ => rfl
  | _, _, _, .index h1 h2 hl hc n ne, X, gd => both_plain (s_index gd (soundE h1 gd) (soundE h2 gd) hl hc n ne) fun _ => rfl
  | _, _, _, .comp h1 h2 h3 h4 hb hg hs, X, gd => both_plain (s_comp gd (soundI h1 gd) h2 (fun gd' => soundC h3 gd') (fun gd' => soundE h4 gd') hb hg hs) fun _ => rfl
  | _, _, _, .comp2 h1 h2 h3 h4 h5 h6 h7 hb hg hg1 ho hs hs1, X, gd => both_plain (s_comp2 gd (soundI h1 gd) h2 (fun gd' => soundC h3 gd') (fun gd' => soundI h4 gd') h5 (fun gd' => soundC h6 gd') (fun gd' => soundE h7 gd') hb hg hg1 ho hs hs1) fun _ => rfl
  | _, _, _, .ix2 h1 h2 h3 h4 ha hb na nb, X, gd => both_plain (s_ix2 gd h1 h2 h3 h4 (soundE ha gd) (soundE hb gd) na nb) fun _ => rfl
  | _, _, _, .mget h0 h1 h2 h3 h4 ha na, X, gd => both_plain (s_mget gd h0 h1 h2 h3 h4 (soundE ha gd) na) fun _ => rfl
  | _, _, _, .min h0 h1 h2 h3 h4 ha, X, gd => s_min gd h0 h1 h2 h3 h4 (soundE ha gd)
  | _, _, _, .mnot h0 h1 h2 h3 h4 ha, X, gd => s_mnot gd h0 h1 h2 h3 h4 (soundE ha gd)
  | _, _, _, .callT h1 h2 h3 ha na (.cons he n hs), X, gd => both_plain (s_callT gd h1 h2 h3 (soundE ha gd) na n (ces_star hs _ _) (s_cons (soundE he gd) n (soundEs hs gd))) fun _ => rfl
theorem soundA : ∀ {sc : Sc} {es : List Expr} {pos : Pos} {x : E}, CA c sc es pos x → ∀ {X : Cx}, Good c k sc X → (∀ b, PE X (.BoolOp .And es pos) (tE X.K x b)) ∧ PW X (.BoolOp .And es pos) (tT X.K x)
  | _, _, _, _, .one h, X, gd => ⟨fun b => pe_one ((soundE h gd).1 b), pw_and1 (soundE h gd).2⟩
  | _, _, _, _, .cons h t, X, gd => by
    have h1 := soundE h gd
    obtain ⟨h2, h3⟩ := soundA t gd
    refine ⟨fun b => PE.imp (pe_and (h1.1 true) (h2 b)) fun σ H Q ⟨O, H0, A, ρ, r, ok, ev, q⟩ => ?_, PW.imp (pw_and h1.2 h3) fun σ H Q ⟨O, H0, A, ρ, kk, ok, ev, q⟩ => ?_⟩
    · simp only [evE] at ev
      obtain ⟨r1, e1, ev2⟩ := bind_some ev
      split at ev2
      · rename_i e2
        exact ⟨O, H0, A, ρ, r1, ok, e1, fun v1 H1 s1 h1 => ⟨true, rpB_bool (rpB_of ok s1 h1) e2, by rw [if_pos rfl]; exact ⟨O, H0, A, ρ, r, ok.same s1, ev2, fun v H' s h => q v H' (s1.trans s) (h.up s1)⟩⟩⟩
      · rename_i e2
        cases ev2
        exact ⟨O, H0, A, ρ, r1, ok, e1, fun v1 H1 s1 h1 => ⟨false, rpB_bool (rpB_of ok s1 h1) e2, by rw [if_neg Bool.false_ne_true]; exact q _ _ s1 rpX_bl⟩⟩
      · cases ev2
    · obtain ⟨r, ev, e9⟩ := evT_inv ev
      simp only [evE] at ev
      obtain ⟨r1, e1, ev2⟩ := bind_some ev
      split at ev2
      · rename_i e2
        exact ⟨O, H0, A, ρ, true, ok, evT_of e1 e2, fun H1 s1 => by show tT X.K _ σ H1 Q; exact ⟨O, H0, A, ρ, kk, ok.same s1, evT_of ev2 e9, fun H2 s2 => q H2 (s1.trans s2)⟩⟩
      · rename_i e2
        cases ev2
        cases e9
        exact ⟨O, H0, A, ρ, false, ok, evT_of e1 e2, fun H1 s1 => by show Q false H1; exact q H1 s1⟩
      · cases ev2
theorem soundO : ∀ {sc : Sc} {es : List Expr} {pos : Pos} {x : E}, CO c sc es pos x → ∀ {X : Cx}, Good c k sc X → (∀ b, PE X (.BoolOp .Or es pos) (tE X.K x b)) ∧ PW X (.BoolOp .Or es pos) (tT X.K x)
  | _, _, _, _, .one h, X, gd => ⟨fun b => pe_one ((soundE h gd).1 b), pw_or1 (soundE h gd).2⟩
  | _, _, _, _, .cons h t, X, gd => by
    have h1 := soundE h gd
    obtain ⟨h2, h3⟩ := soundO t gd
    refine ⟨fun b => PE.imp (pe_or (h1.1 true) (h2 b)) fun σ H Q ⟨O, H0, A, ρ, r, ok, ev, q⟩ => ?_, PW.imp (pw_or h1.2 h3) fun σ H Q ⟨O, H0, A, ρ, kk, ok, ev, q⟩ => ?_⟩
    · simp only [evE] at ev
      obtain ⟨r1, e1, ev2⟩ := bind_some ev
      split at ev2
      · rename_i e2
        exact ⟨O, H0, A, ρ, r1, ok, e1, fun v1 H1 s1 h1 => ⟨false, rpB_bool (rpB_of ok s1 h1) e2, by rw [if_neg Bool.false_ne_true]; exact ⟨O, H0, A, ρ, r, ok.same s1, ev2, fun v H' s h => q v H' (s1.trans s) (h.up s1)⟩⟩⟩
      · rename_i e2
        cases ev2
        exact ⟨O, H0, A, ρ, r1, ok, e1, fun v1 H1 s1 h1 => ⟨true, rpB_bool (rpB_of ok s1 h1) e2, by rw [if_pos rfl]; exact q _ _ s1 rpX_bl⟩⟩
      · cases ev2
    · obtain ⟨r, ev, e9⟩ := evT_inv ev
      simp only [evE] at ev
      obtain ⟨r1, e1, ev2⟩ := bind_some ev
      split at ev2
      · rename_i e2
        exact ⟨O, H0, A, ρ, false, ok, evT_of e1 e2, fun H1 s1 => by show tT X.K _ σ H1 Q; exact ⟨O, H0, A, ρ, kk, ok.same s1, evT_of ev2 e9, fun H2 s2 => q H2 (s1.trans s2)⟩⟩
      · rename_i e2
        cases ev2
        cases e9
        exact ⟨O, H0, A, ρ, true, ok, evT_of e1 e2, fun H1 s1 => by show Q true H1; exact q H1 s1⟩
      · cases ev2
theorem soundEs : ∀ {sc : Sc} {es : List Expr} {xs : Es}, CEs c sc es xs → ∀ {X : Cx}, Good c k sc X → ∀ b, PA X es (tEs X.K xs b)
  | _, _, _, .nil, X, gd => s_nil
  | _, _, _, .cons h n t, X, gd => s_cons (soundE h gd) n (soundEs t gd)
theorem soundP : ∀ {sc : Sc} {e : Option Expr} {x : Oe}, CP c sc e x → ∀ {X : Cx}, Good c k sc X → PO X e (tP X.K x)
  | _, _, _, .no, X, gd => s_po trivial
  | _, _, _, .yes h, X, gd => s_po (soundE h gd)
theorem soundC : ∀ {sc : Sc} {es : List Expr} {x : Oe}, CC c sc es x → ∀ {X : Cx}, Good c k sc X → PTs X es (tC X.K x)
  | _, _, _, .no, X, gd => s_cno
  | _, _, _, .yes h, X, gd => s_cyes (soundE h gd)
theorem soundI : ∀ {sc : Sc} {e : Expr} {x : I}, CI c sc e x → ∀ {X : Cx}, Good c k sc X → ∀ {tg : Expr} (b : Bool), PI X tg e (tI X.K x b)
  | _, _, _, .rng h1 (.cons he n hs) hl, X, gd => s_rng gd h1 (.cons he n hs) hl (s_cons (soundE he gd) n (soundEs hs gd))
  | _, _, _, .seq h, X, gd => s_seq (soundE h gd)
end
end
end PV

set_option Elab.async false
set_option linter.all false
set_option maxRecDepth 100000
set_option maxHeartbeats 4000000
/-! PV10: statements as S, and that they do what evS says. -/
namespace PV
open PySem PySem.Spec PyProof.Rows L2

/-! ### the text -/
def noTup : Expr → Bool
  | .Tuple _ _ _ => false
  | _ => true
def noComp : Expr → Bool
  | .ListComp _ _ _ _ => false
  | .SetComp _ _ _ _ => false
  | .DictComp _ _ _ _ _ => false
  | _ => true
def nameCell (sc : Sc) : Expr → Bool
  | .Name x _ => match sc.lookup x with
    | some .cell => true
    | _ => false
  | _ => false
/-- a target and a value whose stores stand in their order -/
def plainSt (sc : Sc) : Expr → Expr → Bool
  | .Tuple ts _ _, .Tuple vs _ _ => !(ts.length == 2 || ts.length == 3) || vs.all (foldedForSure 8) || ts.any (nameCell sc)
  | .List _ _, _ => false
  | _, _ => true
/-- a value that is no comprehension that goes straight to its name -/
def noSwap (sc : Sc) : Expr → Expr → Bool
  | .Name x p, .ListComp _ _ s q => !(match sc.lookup x with | some .local => true | _ => false) || !(p.line == q.line) || s.names.any fun (n, k) => n == x && (k == .local || k == .cell)
  | _, e => noComp e || (match e with | .ListComp _ _ _ _ => true | _ => false)
/-- a comprehension that does -/
def yesSwap (sc : Sc) : Expr → Expr → Bool
  | .Name x p, .ListComp _ _ s q => (match sc.lookup x with | some .local => true | _ => false) && (p.line == q.line) && !(s.names.any fun (n, k) => n == x && (k == .local || k == .cell))
  | _, _ => false
def swapPair : Expr → Expr → Bool
  | a, b => !([a, b].all (foldedForSure 8)) && !([a, b].all (constantsAlone 8))
def swapTri : Expr → Expr → Expr → Bool
  | a, b, d => !([a, b, d].all (foldedForSure 8)) && !([a, b, d].all (constantsAlone 8))
mutual
inductive CS (c : Cfg) (sc : Sc) : Stmt → S → Prop
  | asg {tg e pos g x} : CG c sc tg g → CE c sc e x → noSwap sc tg e = true → plainSt sc tg e = true → CS c sc (.Assign [tg] e pos) (.asg g x)
  | asgs {x p e pos i y} : c.N[i]? = some x → loc sc x → CE c sc e y → noSwap sc (.Name x p) e = true → CS c sc (.Assign [.Name x p] e pos) (.asgs i y)
  | asgsLc {y py elt gs scope pos spos i x} : c.N[i]? = some y → sc.lookup y = some .local → CE c sc (.ListComp elt gs scope pos) x → yesSwap sc (.Name y py) (.ListComp elt gs scope pos) = true → CS c sc (.Assign [.Name y py] (.ListComp elt gs scope pos) spos) (.asgs i x)
  | asgLc {y py elt gs scope pos spos i x} : c.N[i]? = some y → sc.lookup y = some .local → CE c sc (.ListComp elt gs scope pos) x → yesSwap sc (.Name y py) (.ListComp elt gs scope pos) = true → CS c sc (.Assign [.Name y py] (.ListComp elt gs scope pos) spos) (.asg (.nm i) x)
  | par {x y px py kt pt a b k2 pt2 pos i j xa xb} : c.N[i]? = some x → c.N[j]? = some y → sc.lookup x = some .local → sc.lookup y = some .local → (x == y) = false → (px.line == py.line) = true → CE c sc a xa → CE c sc b xb → noStar a = true → noStar b = true → swapPair a b = true →
      CS c sc (.Assign [.Tuple [.Name x px, .Name y py] kt pt] (.Tuple [a, b] k2 pt2) pos) (.par i j xa xb)
  | par3 {x y z px py pz kt pt a b d k2 pt2 pos i j l xa xb xd} : c.N[i]? = some x → c.N[j]? = some y → c.N[l]? = some z → sc.lookup x = some .local → sc.lookup y = some .local → sc.lookup z = some .local → (x == y) = false → (x == z) = false → (y == z) = false → (px.line == py.line) = true → (px.line == pz.line) = true →
      CE c sc a xa → CE c sc b xb → CE c sc d xd → noStar a = true → noStar b = true → noStar d = true → swapTri a b d = true →
      CS c sc (.Assign [.Tuple [.Name x px, .Name y py, .Name z pz] kt pt] (.Tuple [a, b, d] k2 pt2) pos) (.par3 i j l xa xb xd)
  | app {x px e apos cpos pos i y} : c.N[i]? = some x → vis sc x → (x == ("__debug__" : Str)) = false → (x == ("__classdict__" : Str)) = false → CE c sc e y → noStar e = true → (apos.endLine == cpos.line) = true → CS c sc (.Expr (.Call (.Attribute (.Name x px) "append" apos) [e] [] cpos) pos) (.app i y)
  | ext {x px e apos cpos pos i y} : c.N[i]? = some x → vis sc x → (x == ("__debug__" : Str)) = false → (x == ("__classdict__" : Str)) = false → CE c sc e y → noStar e = true → (apos.endLine == cpos.line) = true → CS c sc (.Expr (.Call (.Attribute (.Name x px) "extend" apos) [e] [] cpos) pos) (.ext i y)
  | ins {x px a e apos cpos pos i y z} : c.N[i]? = some x → vis sc x → (x == ("__debug__" : Str)) = false → (x == ("__classdict__" : Str)) = false → CE c sc a z → CE c sc e y → noStar a = true → noStar e = true → (apos.endLine == cpos.line) = true → CS c sc (.Expr (.Call (.Attribute (.Name x px) "insert" apos) [a, e] [] cpos) pos) (.ins i z y)
  | put {x px a e p pos i y z} : c.N[i]? = some x → vis sc x → (x == ("__debug__" : Str)) = false → (x == ("__classdict__" : Str)) = false → CE c sc a z → CE c sc e y → noSlice a = true → noComp e = true → CS c sc (.Assign [.Subscript (.Name x px) a p] e pos) (.put i z y)
  | pop {tg g x px apos cpos pos i} : CG c sc tg g → c.N[i]? = some x → vis sc x → (x == ("__debug__" : Str)) = false → (x == ("__classdict__" : Str)) = false → (apos.endLine == cpos.line) = true → CS c sc (.Assign [tg] (.Call (.Attribute (.Name x px) "pop" apos) [] [] cpos) pos) (.pop g i)
  | ret {e pos x} : CE c sc e x → CS c sc (.Return (some e) pos) (.ret x)
  | retN {pos} : CS c sc (.Return none pos) .retN
  | ite {t a b pos z xa xb} : CE c sc t z → CSs c sc a xa → CSs c sc b xb → CS c sc (.If t a b pos) (.ite z xa xb)
  | for_ {tg iter body pos g it b} : CG c sc tg g → CI c sc iter it → noSet iter = true → CSs c sc body b → CS c sc (.For tg iter body [] pos) (.for_ g it b)
  | while_ {t body pos z b} : CE c sc t z → CSs c sc body b → CS c sc (.While t body [] pos) (.while_ z b)
  | newD {x px elt tg iter scope cpos pos i own g it xe} : c.N[i]? = some x → sc.lookup x = some .local → CI c sc iter it → CG c scope.names tg g → CE c scope.names elt xe → blkC c.N ⟨.function, sc, false, false, []⟩ scope own = true → (gslots g).all (fun i => (own.map (·.2)).contains i) = true → noSet iter = true →
      yesSwap sc (.Name x px) (.ListComp elt [⟨tg, iter, [], 0⟩] scope cpos) = true → CS c sc (.Assign [.Name x px] (.ListComp elt [⟨tg, iter, [], 0⟩] scope cpos) pos) (.newD i (own.map (·.2)) g it xe)
  | put2 {x px a p1 b p e pos i xa xb y} : c.N[i]? = some x → vis sc x → (x == ("__debug__" : Str)) = false → (x == ("__classdict__" : Str)) = false → CE c sc a xa → CE c sc b xb → CE c sc e y → noSlice a = true → noSlice b = true → noComp e = true → CS c sc (.Assign [.Subscript (.Subscript (.Name x px) a p1) b p] e pos) (.put2 i xa xb y)
  | app2 {x px a p1 e apos cpos pos i xa y} : c.N[i]? = some x → vis sc x → (x == ("__debug__" : Str)) = false → (x == ("__classdict__" : Str)) = false → CE c sc a xa → CE c sc e y → noSlice a = true → noStar e = true → (apos.endLine == cpos.line) = true → CS c sc (.Expr (.Call (.Attribute (.Subscript (.Name x px) a p1) "append" apos) [e] [] cpos) pos) (.app2 i xa y)
  | newM {x px p pos i t} : c.dk = true → c.N[i]? = some x → loc sc x → CS c sc (.Assign [.Name x px] (.Dict [] [] p) pos) (.newM i t)
  | putM {x px a p e pos i xa y} : c.dk = true → c.N[i]? = some x → vis sc x → (x == ("__debug__" : Str)) = false → (x == ("__classdict__" : Str)) = false → CE c sc a xa → CE c sc e y → noSlice a = true → noComp e = true → CS c sc (.Assign [.Subscript (.Name x px) a p] e pos) (.putM i xa y)
  | never {st} : CS c sc st .never
inductive CSs (c : Cfg) (sc : Sc) : List Stmt → Ss → Prop
  | nil : CSs c sc [] .nil
  | cons {st sts s ss} : CS c sc st s → CSs c sc sts ss → CSs c sc (st :: sts) (.cons s ss)
  | share {sts ss i} : CSs c sc sts ss → CSs c sc sts (.cons (.share i) ss)
end

/-! ### readings -/
/-- from one state to a later one: what is no owned list stays; owned lists are the same or new ones -/
def Stp (O : Set0) (A : Nat → Option Addr) (H : Hp) (A' : Nat → Option Addr) (H' : Hp) : Prop := (∀ a o, H a = some o → ¬ Ow O A a → H' a = some o) ∧ ∀ a, Ow O A' a → Ow O A a ∨ H a = none
theorem Stp.refl {O : Set0} {A : Nat → Option Addr} {H : Hp} : Stp O A H A H := ⟨fun _ _ e _ => e, fun _ z => .inl z⟩
theorem Stp.same {O : Set0} {A : Nat → Option Addr} {H H' : Hp} (s : Same H H') : Stp O A H A H' := ⟨fun _ _ e _ => s _ _ e, fun _ z => .inl z⟩
theorem Stp.trans {O : Set0} {A A1 A2 : Nat → Option Addr} {H H1 H2 : Hp} (a : Stp O A H A1 H1) (b : Stp O A1 H1 A2 H2) : Stp O A H A2 H2 := by
  refine ⟨fun x o e n => b.1 _ _ (a.1 _ _ e n) fun z => ?_, fun x z => ?_⟩
  · rcases a.2 _ z with z | z
    · exact n z
    · rw [e] at z; cases z
  · rcases b.2 _ z with z | z
    · exact a.2 _ z
    · by_cases h : Ow O A x
      · exact .inl h
      · cases q : H x with
        | none => exact .inr rfl
        | some o => rw [a.1 _ _ q h] at z; cases z
def Post (K : PySem.W.Frag) (O : Set0) (H0 : Hp) (A : Nat → Option Addr) (H : Hp) (D : Ends) : Out → Prop
  | .nx ρ' => ∀ A' σ' H', Ok K O H0 A' H' σ' ρ' → Stp O A H A' H' → D.nx σ' H'
  | .bk ρ' => ∀ A' σ' H', Ok K O H0 A' H' σ' ρ' → Stp O A H A' H' → D.bk σ' H'
  | .ct ρ' => ∀ A' σ' H', Ok K O H0 A' H' σ' ρ' → Stp O A H A' H' → D.ct σ' H'
  | .rt r => ∀ v H', Same H0 H' → RpR K H0 H' O false v r → D.rt v H'
theorem Post.later {K : PySem.W.Frag} {O : Set0} {H0 : Hp} {A A1 : Nat → Option Addr} {H H1 : Hp} {D : Ends} {out : Out} (h : Post K O H0 A H D out) (s : Stp O A H A1 H1) : Post K O H0 A1 H1 D out := by
  cases out with
  | nx ρ' => exact fun A' σ' H' ok s' => h A' σ' H' ok (s.trans s')
  | bk ρ' => exact fun A' σ' H' ok s' => h A' σ' H' ok (s.trans s')
  | ct ρ' => exact fun A' σ' H' ok s' => h A' σ' H' ok (s.trans s')
  | rt r => exact h
def tS (K : PySem.W.Frag) (n : Nat) (s : S) : TS := fun D σ H => ∃ (O : Set0) (H0 : Hp) (A : Nat → Option Addr) (ρ : Sl) (out : Out), Ok K O H0 A H σ ρ ∧ evS n s ρ = some out ∧ Post K O H0 A H D out
def tSs (K : PySem.W.Frag) (n : Nat) (s : Ss) : TS := fun D σ H => ∃ (O : Set0) (H0 : Hp) (A : Nat → Option Addr) (ρ : Sl) (out : Out), Ok K O H0 A H σ ρ ∧ evSs n s ρ = some out ∧ Post K O H0 A H D out
section
variable {X : Cx}
theorem PS.imp {st : Stmt} {t t' : TS} (h : PS X st t) (i : ∀ D σ H, t' D σ H → t D σ H) : PS X st t' := ⟨fun pins s σ H D I q => h.run pins s σ H D I (i D σ H q)⟩
theorem PSs.imp {st : List Stmt} {t t' : TS} (h : PSs X st t) (i : ∀ D σ H, t' D σ H → t D σ H) : PSs X st t' := ⟨fun pins s σ H D I q => h.run pins s σ H D I (i D σ H q)⟩
end

/-! ### stores -/
section
variable {K : PySem.W.Frag} {O : Set0} {H0 H H1 H' : Hp} {A : Nat → Option Addr} {σ : L2.St} {ρ : Sl}
/-- any value goes into a slot -/
theorem Ok.store (ok : Ok K O H0 A H σ ρ) (s : Same H H') {i : Nat} {v : V} {r : R} (h : RpR K H H' (Ow O A) false v r) :
    ∃ A', Ok K O H0 A' H' (σ.set i (some v)) (ρ.set i (some r)) ∧ Stp O A H A' H' := by
  obtain ⟨fl, d⟩ := r
  cases fl with
  | false => exact ⟨A, (ok.same s).set h, Stp.same s⟩
  | true =>
    obtain ⟨a, xs, ds, e1, e2, e3, e4, h⟩ := h
    have e2 : d = .list ds := e2
    subst e1 e2
    refine ⟨_, ok.setOwn s e4 e3 h, fun _ _ e _ => s _ _ e, fun x z => ?_⟩
    rcases putA_ow z with z | z | z
    · exact .inl z
    · exact .inr (by rw [z]; exact e4)
    · cases z
theorem own_inv {i : Nat} {ds : List PyData} (h : own ρ i = some ds) : ρ[i]? = some (some (true, .list ds)) := by
  unfold own at h
  split at h
  · rename_i e; cases h; exact e
  · cases h
theorem Ok.owned (ok : Ok K O H0 A H σ ρ) {i : Nat} {ds : List PyData} (h : own ρ i = some ds) : ∃ a xs, A i = some a ∧ σ[i]? = some (some (.ref a)) ∧ H a = some (.lst xs) ∧ RpA K H (Ow O A) xs ds := by
  obtain ⟨v, e, a, q1, q2, xs, q4, h⟩ := ok.val i _ (own_inv h)
  subst q2
  exact ⟨a, xs, q1, e, q4, h⟩
theorem Stp.give {i : Nat} : Stp O A H (dropA A i) H := ⟨fun _ _ e _ => e, fun x z => .inl (by
  rcases z with z | ⟨j, z⟩
  · exact .inl z
  · exact .inr ⟨j, (dropA_inv z).1⟩)⟩
theorem Stp.upd {i : Nat} {a : Addr} {o : HO} (hA : A i = some a) : Stp O A H A (L2.upd H a o) :=
  ⟨fun b u e n => by rw [upd_ne (fun z => n (.inr ⟨i, by rw [z]; exact hA⟩))]; exact e, fun _ z => .inl z⟩
end
end PV

set_option Elab.async false
set_option linter.all false
set_option maxRecDepth 100000
set_option maxHeartbeats 4000000
/-! PV11: soundness of statements. -/
namespace PV
open PySem PySem.Spec PyProof.Rows L2
theorem sw_fold {ts vs : List Expr} {k k2 : Nat} {p p2 : Pos} {env : Env} (h : vs.all (foldedForSure 8) = true) : swappedStores [.Tuple ts k p] (.Tuple vs k2 p2) env = pure none := by
  unfold swappedStores
  simp only [h, if_true]
  repeat' split
  all_goals rfl
theorem sw_len {ts vs : List Expr} {k k2 : Nat} {p p2 : Pos} {env : Env} (h : (ts.length == 2 || ts.length == 3) = false) : swappedStores [.Tuple ts k p] (.Tuple vs k2 p2) env = pure none := by
  unfold swappedStores
  simp only [h, Bool.not_false, Bool.true_or, if_true]
theorem sw_cell {ts vs : List Expr} {k k2 : Nat} {p p2 px : Pos} {env : Env} {x : Str} (hm : Expr.Name x px ∈ ts) (hk : (env.kindOf x == some NameKind.local) = false) : swappedStores [.Tuple ts k p] (.Tuple vs k2 p2) env = pure none := by
  unfold swappedStores
  dsimp only
  split
  · rfl
  · split
    · rfl
    · rw [if_pos]
      rw [Bool.or_eq_true]
      left
      rw [bne_iff_ne]
      intro e
      have := List.filterMap_length_eq_length.mp e _ hm
      simp [hk] at this
theorem sw_pair {a b : Expr} {x y : Str} {px py p p2 : Pos} {k k2 : Nat} {env : Env} (hb : env.blockKind = .function) (hx : env.kindOf x = some .local) (hy : env.kindOf y = some .local) (ne : (x == y) = false) (hl : (px.line == py.line) = true) (na : noStar a = true) (nb : noStar b = true) (hs : swapPair a b = true) :
    swappedStores [.Tuple [.Name x px, .Name y py] k p] (.Tuple [a, b] k2 p2) env = pure (some [x, y]) := by
  have hl' : py.line = px.line := (beq_iff_eq.mp hl).symm
  have q1 : (y == x) = false := by rw [Bool.beq_comm]; exact ne
  unfold swapPair at hs
  rw [Bool.and_eq_true, Bool.not_eq_true', Bool.not_eq_true'] at hs
  unfold swappedStores
  dsimp only
  rw [if_neg, if_neg, if_neg, if_neg, if_neg]
  · simp [hx, hy, Expr.pos, hl']
  · rw [hs.2]; exact Bool.false_ne_true
  · rw [hs.1]; exact Bool.false_ne_true
  · simp [hx, hy, Expr.pos, hl', List.eraseDups_cons, q1]
  · intro h
    rw [List.any_eq_true] at h
    obtain ⟨z, hz, h⟩ := h
    have nz : noStar z = true := by
      simp only [List.mem_cons, List.not_mem_nil, or_false] at hz
      rcases hz with rfl | rfl <;> assumption
    cases z <;> first | exact absurd h Bool.false_ne_true | exact (nomatch (show false = true from nz))
  · simp [hb]
theorem sw_tri {a b d : Expr} {x y z : Str} {px py pz p p2 : Pos} {k k2 : Nat} {env : Env} (hb : env.blockKind = .function) (hx : env.kindOf x = some .local) (hy : env.kindOf y = some .local) (hz : env.kindOf z = some .local) (ne : (x == y) = false) (ne2 : (x == z) = false) (ne3 : (y == z) = false)
    (hl : (px.line == py.line) = true) (hl2 : (px.line == pz.line) = true) (na : noStar a = true) (nb : noStar b = true) (nd : noStar d = true) (hs : swapTri a b d = true) :
    swappedStores [.Tuple [.Name x px, .Name y py, .Name z pz] k p] (.Tuple [a, b, d] k2 p2) env = pure (some [x, y, z]) := by
  have hl' : py.line = px.line := (beq_iff_eq.mp hl).symm
  have hl2' : pz.line = px.line := (beq_iff_eq.mp hl2).symm
  have q1 : (y == x) = false := by rw [Bool.beq_comm]; exact ne
  have q2 : (z == x) = false := by rw [Bool.beq_comm]; exact ne2
  have q3 : (z == y) = false := by rw [Bool.beq_comm]; exact ne3
  unfold swapTri at hs
  rw [Bool.and_eq_true, Bool.not_eq_true', Bool.not_eq_true'] at hs
  unfold swappedStores
  dsimp only
  rw [if_neg, if_neg, if_neg, if_neg, if_neg]
  · simp [hx, hy, hz, Expr.pos, hl', hl2']
  · rw [hs.2]; exact Bool.false_ne_true
  · rw [hs.1]; exact Bool.false_ne_true
  · simp [hx, hy, hz, Expr.pos, hl', hl2', List.eraseDups_cons, q1, q2, q3]
  · intro h
    rw [List.any_eq_true] at h
    obtain ⟨z, hz, h⟩ := h
    have nz : noStar z = true := by
      simp only [List.mem_cons, List.not_mem_nil, or_false] at hz
      rcases hz with rfl | rfl | rfl <;> assumption
    cases z <;> first | exact absurd h Bool.false_ne_true | exact (nomatch (show false = true from nz))
  · simp [hb]
section
variable {X : Cx} {c : Cfg} {k : Nat} {sc : Sc}
theorem blockKind_of (gd : Good c k sc X) : X.env.blockKind = .function := by unfold Env.blockKind; rw [gd.kind]; rfl
theorem kind_loc (gd : Good c k sc X) {x : Str} (h : sc.lookup x = some .local) : X.env.kindOf x = some .local := gd.lc x h
theorem kind_cell (gd : Good c k sc X) {x : Str} (h : sc.lookup x = some .cell) : X.env.kindOf x = some .cell := (gd.cl x h).1
theorem noSwap_ok (gd : Good c k sc X) {tg e : Expr} {g : G} (hg : CG c sc tg g) (h : noSwap sc tg e = true) (l : Nat) : swapsWithSole [tg] e l X.env = pure false := by
  show swapsWith e (some tg) l X.env = pure false
  cases hg with
  | @nm x p i h1 h2 =>
    cases e <;> try rfl
    · rename_i elt gs s q
      have h : (!(match sc.lookup x with | some .local => true | _ => false) || !(p.line == q.line) || s.names.any fun (n, k) => n == x && (k == .local || k == .cell)) = true := h
      unfold swapsWith
      show pure (X.env.blockKind == .function && X.env.kindOf x == some .local && p.line == q.line && !(s.names.any fun (n, k) => n == x && (k == .local || k == .cell))) = pure false
      congr 1
      rcases h2 with h2 | h2
      · rw [h2] at h
        simp only [Bool.not_true, Bool.false_or, Bool.or_eq_true] at h
        rcases h with h | h
        · rw [Bool.not_eq_true'] at h
          rw [h]; simp
        · rw [h]; simp
      · rw [kind_cell gd h2]
        simp
    · cases h
    · cases h
  | two => cases e <;> first | rfl | cases h
  | thr => cases e <;> first | rfl | cases h
  | fou => cases e <;> first | rfl | cases h
theorem yesSwap_ok (gd : Good c k sc X) {y : Str} {py pos : Pos} {elt : Expr} {gs : List Comprehension} {scope : Scope} (h : yesSwap sc (.Name y py) (.ListComp elt gs scope pos) = true) (l : Nat) : swapsWith (.ListComp elt gs scope pos) (some (.Name y py)) l X.env = pure true := by
  have h : ((match sc.lookup y with | some .local => true | _ => false) && (py.line == pos.line) && !(scope.names.any fun (n, k) => n == y && (k == .local || k == .cell))) = true := h
  simp only [Bool.and_eq_true] at h
  obtain ⟨⟨h1, h2⟩, h3⟩ := h
  have h1 : sc.lookup y = some .local := by
    split at h1
    · assumption
    · cases h1
  exact sw_true gd.kind (gd.lc y h1) h2 (by simpa using h3)
theorem cell_at (gd : Good c k sc X) {ts : List Expr} (h : ts.any (nameCell sc) = true) : ∃ x px, Expr.Name x px ∈ ts ∧ (X.env.kindOf x == some NameKind.local) = false := by
  rw [List.any_eq_true] at h
  obtain ⟨t, ht, h⟩ := h
  cases t <;> try exact absurd h Bool.false_ne_true
  rename_i x px
  have h : (match sc.lookup x with | some .cell => true | _ => false) = true := h
  have e : sc.lookup x = some .cell := by
    split at h
    · assumption
    · cases h
  exact ⟨x, px, ht, by rw [kind_cell gd e]; rfl⟩
theorem plainSt_tup (gd : Good c k sc X) {ts vs : List Expr} {k1 k2 : Nat} {p1 p2 : Pos} (h : plainSt sc (.Tuple ts k1 p1) (.Tuple vs k2 p2) = true) : swappedStores [.Tuple ts k1 p1] (.Tuple vs k2 p2) X.env = pure none := by
  have h : (!(ts.length == 2 || ts.length == 3) || vs.all (foldedForSure 8) || ts.any (nameCell sc)) = true := h
  rw [Bool.or_eq_true, Bool.or_eq_true] at h
  rcases h with (h | h) | h
  · exact sw_len (by simpa using h)
  · exact sw_fold h
  · obtain ⟨x, px, hm, hk⟩ := cell_at gd h
    exact sw_cell hm hk
theorem plainSt_ok (gd : Good c k sc X) {tg e : Expr} {g : G} (hg : CG c sc tg g) (h : plainSt sc tg e = true) : swappedStores [tg] e X.env = pure none := by
  cases hg with
  | nm => cases e <;> rfl
  | two ha hb => cases e <;> first | rfl | exact plainSt_tup gd h
  | thr ha hb hd => cases e <;> first | rfl | exact plainSt_tup gd h
  | fou ha hb hd he => cases e <;> first | rfl | exact plainSt_tup gd h
theorem pair_ne {N : List Str} (nd : N.Nodup) {i j : Nat} {x y : Str} (hi : N[i]? = some x) (hj : N[j]? = some y) (ne : (x == y) = false) : i ≠ j := fun e => by
  subst e
  rw [hi] at hj
  cases hj
  simp at ne

/-! ### one statement each -/
variable {n : Nat}
theorem s_asg (gd : Good c k sc X) {tg e : Expr} {pos : Pos} {g : G} {x : E} (hg : CG c sc tg g) (he : Both X e x) (h1 : noSwap sc tg e = true) (h2 : plainSt sc tg e = true) : PS X (.Assign [tg] e pos) (tS X.K n (.asg g x)) := by
  have h0 : (assignEach [tg] X.env).map (·.2) = [assign tg X.env] := by rw [assignEach_cons (noStarG hg)]; rfl
  match tg, g, hg, h1, h2, h0 with
  | _, _, .nm (x := y) (i := i) hi hl, h1, h2, h0 =>
    refine PS.imp (ps_asg (he.1 false) (pg_name (i := i) (by rw [gd.hN]; exact gd.nd) (by rw [gd.hN]; exact hi) (gd.loc hl).1 (gd.loc hl).2) (noSwap_ok gd (.nm hi hl) h1 _) (plainSt_ok gd (.nm hi hl) h2) h0) fun D σ H ⟨O, H0, A, ρ, out, ok, ev, q⟩ => ?_
    simp only [evS, asgR] at ev
    obtain ⟨r, e1, ev2⟩ := bind_some ev
    cases ev2
    refine ⟨O, H0, A, ρ, r, ok, e1, fun v H1 s1 h1 => ?_⟩
    obtain ⟨A', ok', st⟩ := ok.store s1 h1.toR
    exact q A' _ H1 ok' st
  | _, _, .two ha hb, h1, h2, h0 =>
    refine PS.imp (ps_asg (he.1 false) (soundG gd (.two ha hb)) (noSwap_ok gd (.two ha hb) h1 _) (plainSt_ok gd (.two ha hb) h2) h0) fun D σ H ⟨O, H0, A, ρ, out, ok, ev, q⟩ => ?_
    simp only [evS, asgR] at ev
    obtain ⟨r, e1, ev2⟩ := bind_some ev
    obtain ⟨ρ', e2, e3⟩ := map_some ev2
    subst e3
    exact ⟨O, H0, A, ρ, r, ok, e1, fun v H1 s1 h1 => ⟨O, H0, A, ρ, ρ', r.2, ok.same s1, ok.down s1 h1.toR, e2, fun σ' ok' _ => q A σ' H1 ok' (Stp.same s1)⟩⟩
  | _, _, .thr ha hb hd, h1, h2, h0 =>
    refine PS.imp (ps_asg (he.1 false) (soundG gd (.thr ha hb hd)) (noSwap_ok gd (.thr ha hb hd) h1 _) (plainSt_ok gd (.thr ha hb hd) h2) h0) fun D σ H ⟨O, H0, A, ρ, out, ok, ev, q⟩ => ?_
    simp only [evS, asgR] at ev
    obtain ⟨r, e1, ev2⟩ := bind_some ev
    obtain ⟨ρ', e2, e3⟩ := map_some ev2
    subst e3
    exact ⟨O, H0, A, ρ, r, ok, e1, fun v H1 s1 h1 => ⟨O, H0, A, ρ, ρ', r.2, ok.same s1, ok.down s1 h1.toR, e2, fun σ' ok' _ => q A σ' H1 ok' (Stp.same s1)⟩⟩
  | _, _, .fou ha hb hd he', h1, h2, h0 =>
    refine PS.imp (ps_asg (he.1 false) (soundG gd (.fou ha hb hd he')) (noSwap_ok gd (.fou ha hb hd he') h1 _) (plainSt_ok gd (.fou ha hb hd he') h2) h0) fun D σ H ⟨O, H0, A, ρ, out, ok, ev, q⟩ => ?_
    simp only [evS, asgR] at ev
    obtain ⟨r, e1, ev2⟩ := bind_some ev
    obtain ⟨ρ', e2, e3⟩ := map_some ev2
    subst e3
    exact ⟨O, H0, A, ρ, r, ok, e1, fun v H1 s1 h1 => ⟨O, H0, A, ρ, ρ', r.2, ok.same s1, ok.down s1 h1.toR, e2, fun σ' ok' _ => q A σ' H1 ok' (Stp.same s1)⟩⟩
/-- the new list's address -/
def newOf : R → V → Set0
  | (true, _), .ref a => fun x => x = a
  | _, _ => fun _ => False
/-- the second of two values, the first one standing by -/
theorem Ok.beside {K : PySem.W.Frag} {O : Set0} {H0 H H1 : Hp} {A : Nat → Option Addr} {σ : L2.St} {ρ : Sl} (ok : Ok K O H0 A H σ ρ) (s : Same H H1) {v : V} {r : R} (h : RpR K H H1 (Ow O A) false v r) (i : Nat) :
    ∃ O' H0' A1, Ok K O' H0' A H1 σ ρ ∧ Ok K O H0 A1 H1 (σ.set i (some v)) (ρ.set i (some r)) ∧ Stp O A H A1 H1 ∧ (∀ a, Ow O A1 a → Ow O A a ∨ newOf r v a) ∧ ∀ a, Ow O A a ∨ newOf r v a → Ow O' A a := by
  obtain ⟨fl, d⟩ := r
  cases fl with
  | false => exact ⟨O, H0, A, ok.same s, (ok.same s).set h, Stp.same s, fun _ z => .inl z, fun _ z => z.elim _root_.id fun z => (show False from z).elim⟩
  | true =>
    obtain ⟨a, xs, ds, e1, e2, e3, e4, h'⟩ := h
    have e2 : d = .list ds := e2
    subst e1 e2
    have lem : ∀ x, Ow O (putA A i a []) x → Ow O A x ∨ x = a := fun x z => by
      rcases putA_ow z with z | z | z
      · exact .inl z
      · exact .inr z
      · cases z
    refine ⟨_, _, _, ok.with s e4 e3, ok.setOwn s e4 e3 h', ⟨fun _ _ e _ => s _ _ e, fun x z => (lem x z).elim .inl fun e => .inr (by rw [e]; exact e4)⟩, lem, fun x z => ?_⟩
    rcases z with (z | z) | z
    · exact .inl (.inl z)
    · exact .inr z
    · exact .inl (.inr z)
theorem RpR.fewer {K : PySem.W.Frag} {H H1 : Hp} {P P' : Set0} {v : V} {r : R} (h : RpR K H H1 P false v r) (hp : ∀ a, P' a → P a) : RpR K H H1 P' false v r := by
  obtain ⟨fl, d⟩ := r
  cases fl with
  | false => exact Rp.less h hp
  | true =>
    obtain ⟨a, xs, ds, e1, e2, e3, e4, h⟩ := h
    exact ⟨a, xs, ds, e1, e2, e3, e4, h.less fun x z => z.elim (fun z => .inl (hp x z)) .inr⟩
theorem s_par (gd : Good c k sc X) {x y : Str} {px py pt pt2 pos : Pos} {kt k2 i j : Nat} {a b : Expr} {xa xb : E} (hi : c.N[i]? = some x) (hj : c.N[j]? = some y) (hx : sc.lookup x = some .local) (hy : sc.lookup y = some .local) (ne : (x == y) = false) (hl : (px.line == py.line) = true)
    (ha : Both X a xa) (hb : Both X b xb) (na : noStar a = true) (nb : noStar b = true) (hs : swapPair a b = true) : PS X (.Assign [.Tuple [.Name x px, .Name y py] kt pt] (.Tuple [a, b] k2 pt2) pos) (tS X.K n (.par i j xa xb)) := by
  refine PS.imp (ps_par gd.calm (by rw [gd.hN]; exact gd.nd) (by rw [gd.hN]; exact hi) (by rw [gd.hN]; exact hj) (pair_ne gd.nd hi hj ne) (gd.lc x hx) (gd.lc y hy) (pa_cons (ha.1 false) (pa_cons (hb.1 false) pa_nil (starEach_cons nb)) (starEach_cons na))
    (sw_pair (blockKind_of gd) (kind_loc gd hx) (kind_loc gd hy) ne hl na nb hs)) fun D σ H ⟨O, H0, A, ρ, out, ok, ev, q⟩ => ?_
  simp only [evS] at ev
  obtain ⟨r1, e1, ev2⟩ := bind_some ev
  obtain ⟨r2, e2, e3⟩ := map_some ev2
  subst e3
  refine ⟨O, H0, A, ρ, r1, ok, e1, fun v1 H1 s1 h1 => ?_⟩
  obtain ⟨O', H0', A1, okB, ok1, st, sub, sup⟩ := ok.beside s1 h1.toR i
  refine ⟨O', H0', A, ρ, r2, okB, e2, fun v2 H2 s2 h2 => ⟨v1, v2, rfl, ?_⟩⟩
  obtain ⟨A2, ok2, st2⟩ := ok1.store (i := j) s2 (h2.toR.fewer fun a z => sup a (sub a z))
  exact q A2 _ H2 ok2 (st.trans st2)
theorem s_par3 (gd : Good c k sc X) {x y z : Str} {px py pz pt pt2 pos : Pos} {kt k2 i j l : Nat} {a b d : Expr} {xa xb xd : E} (hi : c.N[i]? = some x) (hj : c.N[j]? = some y) (hl : c.N[l]? = some z) (hx : sc.lookup x = some .local) (hy : sc.lookup y = some .local) (hz : sc.lookup z = some .local)
    (ne : (x == y) = false) (ne2 : (x == z) = false) (ne3 : (y == z) = false) (hl1 : (px.line == py.line) = true) (hl2 : (px.line == pz.line) = true)
    (ha : Both X a xa) (hb : Both X b xb) (hd : Both X d xd) (na : noStar a = true) (nb : noStar b = true) (nd : noStar d = true) (hs : swapTri a b d = true) : PS X (.Assign [.Tuple [.Name x px, .Name y py, .Name z pz] kt pt] (.Tuple [a, b, d] k2 pt2) pos) (tS X.K n (.par3 i j l xa xb xd)) := by
  refine PS.imp (ps_par3 gd.calm (by rw [gd.hN]; exact gd.nd) (by rw [gd.hN]; exact hi) (by rw [gd.hN]; exact hj) (by rw [gd.hN]; exact hl) (pair_ne gd.nd hi hj ne) (pair_ne gd.nd hi hl ne2) (pair_ne gd.nd hj hl ne3) (gd.lc x hx) (gd.lc y hy) (gd.lc z hz)
    (pa_cons (ha.1 false) (pa_cons (hb.1 false) (pa_cons (hd.1 false) pa_nil (starEach_cons nd)) (starEach_cons nb)) (starEach_cons na))
    (sw_tri (blockKind_of gd) (kind_loc gd hx) (kind_loc gd hy) (kind_loc gd hz) ne ne2 ne3 hl1 hl2 na nb nd hs)) fun D σ H ⟨O, H0, A, ρ, out, ok, ev, q⟩ => ?_
  simp only [evS] at ev
  obtain ⟨r1, e1, ev2⟩ := bind_some ev
  obtain ⟨r2, e2, ev3⟩ := bind_some ev2
  obtain ⟨r3, e3, e4⟩ := map_some ev3
  subst e4
  refine ⟨O, H0, A, ρ, r1, ok, e1, fun v1 H1 s1 h1 => ?_⟩
  obtain ⟨O', H0', A1, okB, ok1, st, sub, sup⟩ := ok.beside s1 h1.toR i
  refine ⟨O', H0', A, ρ, r2, okB, e2, fun v2 H2 s2 h2 => ?_⟩
  obtain ⟨O2, H02, _, okC, _, _, _, sup2⟩ := okB.beside s2 h2.toR j
  obtain ⟨_, _, A2, _, ok2, st2, sub3, _⟩ := ok1.beside s2 (h2.toR.fewer fun a z => sup a (sub a z)) j
  refine ⟨O2, H02, A, ρ, r3, okC, e3, fun v3 H3 s3 h3 => ⟨v1, v2, v3, rfl, ?_⟩⟩
  obtain ⟨A3, ok3, st3⟩ := ok2.store (i := l) s3 (h3.toR.fewer fun a z => sup2 a ((sub3 a z).elim (fun z => .inl (sup a (sub a z))) .inr))
  exact q A3 _ H3 ok3 (st.trans (st2.trans st3))
/-- methods of an owned list -/
theorem s_app (gd : Good c k sc X) {x : Str} {px apos cpos pos : Pos} {e : Expr} {i : Nat} {y : E} (hi : c.N[i]? = some x) (hv : vis sc x) (hd : (x == ("__debug__" : Str)) = false) (hcd : (x == ("__classdict__" : Str)) = false) (he : Both X e y) (ne : noStar e = true) (hl : (apos.endLine == cpos.line) = true) :
    PS X (.Expr (.Call (.Attribute (.Name x px) "append" apos) [e] [] cpos) pos) (tS X.K n (.app i y)) := by
  have h1 : starEach [e] X.env = (false, eval e X.env) :: starEach [] X.env := starEach_cons ne
  refine PS.imp (ps_expr (pe_bm PySem.F.plainAttrs_list PySem.F.slot_list_append PySem.F.type_list_append mt_append (pe_var (i := i) (by rw [gd.hN]; exact hi) (gd.vis hv) hd hcd) (pa_cons (he.1 false) pa_nil h1) rfl (by rw [h1]; rfl) hl h1 rfl)) fun D σ H ⟨O, H0, A, ρ, out, ok, ev, q⟩ => ?_
  simp only [evS] at ev
  obtain ⟨ds, e1, ev2⟩ := bind_some ev
  obtain ⟨r, e2, ev3⟩ := bind_some ev2
  split at ev3
  case isFalse => cases ev3
  rename_i hz
  cases ev3
  obtain ⟨a, xs, hA, hs, hH, hr⟩ := ok.owned e1
  refine ⟨.ref a, hs, .inl ⟨rfl, xs, .inl (.inl hH)⟩, ⟨O, H0, A, ρ, r, ok, e2, fun v H1 s1 h1 => ?_⟩⟩
  refine ⟨a, xs, v, rfl, rfl, s1 _ _ hH, ?_, ?_⟩
  · have := lenOk_le hz
    have l := hr.length
    omega
  · have ok1 := ok.same s1
    exact q A σ _ (ok1.upd hA hs ((hr.same s1).append (.one (ok.down s1 h1.toR)))) ((Stp.same s1).trans (Stp.upd hA))
theorem s_ext (gd : Good c k sc X) {x : Str} {px apos cpos pos : Pos} {e : Expr} {i : Nat} {y : E} (hi : c.N[i]? = some x) (hv : vis sc x) (hd : (x == ("__debug__" : Str)) = false) (hcd : (x == ("__classdict__" : Str)) = false) (he : Both X e y) (ne : noStar e = true) (hl : (apos.endLine == cpos.line) = true) :
    PS X (.Expr (.Call (.Attribute (.Name x px) "extend" apos) [e] [] cpos) pos) (tS X.K n (.ext i y)) := by
  have h1 : starEach [e] X.env = (false, eval e X.env) :: starEach [] X.env := starEach_cons ne
  refine PS.imp (ps_expr (pe_bm PySem.F.plainAttrs_list PySem.F.slot_list_extend PySem.F.type_list_extend mt_extendS (pe_var (i := i) (by rw [gd.hN]; exact hi) (gd.vis hv) hd hcd) (pa_cons (he.1 false) pa_nil h1) rfl (by rw [h1]; rfl) hl h1 rfl)) fun D σ H ⟨O, H0, A, ρ, out, ok, ev, q⟩ => ?_
  simp only [evS] at ev
  obtain ⟨ds, e1, ev2⟩ := bind_some ev
  obtain ⟨r, e2, ev3⟩ := bind_some ev2
  obtain ⟨a, xs, hA, hs, hH, hr⟩ := ok.owned e1
  refine ⟨.ref a, hs, .inl ⟨rfl, xs, .inl (.inl hH)⟩, ⟨O, H0, A, ρ, r, ok, e2, fun v H1 s1 h1 => ?_⟩⟩
  have hd := ok.down s1 h1.toR
  obtain ⟨fl, d⟩ := r
  cases d <;> try cases ev3
  case list es =>
    have ev3 : (if lenOk (ds.length + es.length) then some (Out.nx (ρ.set i (some (true, .list (ds ++ es))))) else none) = some out := ev3
    split at ev3
    case isFalse => cases ev3
    rename_i hz
    cases ev3
    cases hd with
    | @lst b ys _ h2 h3 h4 =>
      refine ⟨a, b, xs, ys, rfl, rfl, s1 _ _ hH, .inl h2, ?_, ?_⟩
      · rw [hr.length, h4.length]; exact lenOk_le hz
      · have ok1 := ok.same s1
        exact q A σ _ (ok1.upd hA hs ((hr.same s1).append h4)) ((Stp.same s1).trans (Stp.upd hA))
  case tuple es =>
    have ev3 : (if lenOk (ds.length + es.length) then some (Out.nx (ρ.set i (some (true, .list (ds ++ es))))) else none) = some out := ev3
    split at ev3
    case isFalse => cases ev3
    rename_i hz
    cases ev3
    obtain ⟨b, ys, rfl, h2, h4⟩ := RpB.tuple (.inl hd)
    refine ⟨a, b, xs, ys, rfl, rfl, s1 _ _ hH, .inr h2, ?_, ?_⟩
    · rw [hr.length, h4.length]; exact lenOk_le hz
    · have ok1 := ok.same s1
      exact q A σ _ (ok1.upd hA hs ((hr.same s1).append h4)) ((Stp.same s1).trans (Stp.upd hA))
theorem s_ins (gd : Good c k sc X) {x : Str} {px apos cpos pos : Pos} {a e : Expr} {i : Nat} {z y : E} (hi : c.N[i]? = some x) (hv : vis sc x) (hd : (x == ("__debug__" : Str)) = false) (hcd : (x == ("__classdict__" : Str)) = false) (ha : Both X a z) (he : Both X e y) (na : noStar a = true) (ne : noStar e = true) (hl : (apos.endLine == cpos.line) = true) :
    PS X (.Expr (.Call (.Attribute (.Name x px) "insert" apos) [a, e] [] cpos) pos) (tS X.K n (.ins i z y)) := by
  have h1 : starEach [e] X.env = (false, eval e X.env) :: starEach [] X.env := starEach_cons ne
  have h2 : starEach [a, e] X.env = (false, eval a X.env) :: starEach [e] X.env := starEach_cons na
  refine PS.imp (ps_expr (pe_bm PySem.F.plainAttrs_list PySem.F.slot_list_insert PySem.F.type_list_insert mt_insert (pe_var (i := i) (by rw [gd.hN]; exact hi) (gd.vis hv) hd hcd) (pa_cons (ha.1 true) (pa_cons (he.1 false) pa_nil h1) h2) rfl (by rw [h2, h1]; rfl) hl h2 (by rw [h1]; rfl))) fun D σ H ⟨O, H0, A, ρ, out, ok, ev, q⟩ => ?_
  simp only [evS] at ev
  obtain ⟨ds, e1, ev2⟩ := bind_some ev
  obtain ⟨r1, e2, ev3⟩ := bind_some ev2
  obtain ⟨r, e3, ev4⟩ := bind_some ev3
  obtain ⟨p, xs, hA, hs, hH, hr⟩ := ok.owned e1
  refine ⟨.ref p, hs, .inl ⟨rfl, xs, .inl (.inl hH)⟩, ⟨O, H0, A, ρ, r1, ok, e2, fun v0 H1 s1 h1 => ⟨O, H0, A, ρ, r, ok.same s1, e3, fun v H2 s2 h2 => ?_⟩⟩⟩
  have hv0 := rpB_of ok s1 h1
  obtain ⟨fl, d⟩ := r1
  cases d <;> try cases ev4
  rename_i j
  have ev4 : (if decide (0 ≤ j) && decide (j < 1000000000) && lenOk (ds.length + 1) then some (Out.nx (ρ.set i (some (true, .list (ds.take j.toNat ++ [r.2] ++ ds.drop j.toNat))))) else none) = some out := ev4
  split at ev4
  case isFalse => cases ev4
  rename_i hz
  cases ev4
  rw [Bool.and_eq_true, Bool.and_eq_true] at hz
  obtain ⟨⟨z1, z2⟩, z3⟩ := hz
  have z1 := of_decide_eq_true z1
  have z2 := of_decide_eq_true z2
  have z3 := lenOk_le z3
  have := hv0.int
  subst this
  have hr2 := (hr.same s1).same s2
  refine ⟨p, xs, j, v, rfl, rfl, s2 _ _ (s1 _ _ hH), ?_, z1, by omega, ?_⟩
  · have l := hr.length
    omega
  · have ok2 := (ok.same s1).same s2
    exact q A σ _ (ok2.upd hA hs (((hr2.take _).append (.one ((ok.same s1).down s2 h2.toR))).append (hr2.drop _))) ((Stp.same (s1.trans s2)).trans (Stp.upd hA))
theorem s_put (gd : Good c k sc X) {x : Str} {px p pos : Pos} {a e : Expr} {i : Nat} {z y : E} (hi : c.N[i]? = some x) (hv : vis sc x) (hd : (x == ("__debug__" : Str)) = false) (hcd : (x == ("__classdict__" : Str)) = false) (ha : Both X a z) (he : Both X e y) (na : noSlice a = true) (ne : noComp e = true) :
    PS X (.Assign [.Subscript (.Name x px) a p] e pos) (tS X.K n (.put i z y)) := by
  have hrel : ∀ v, assign (.Subscript (.Name x px) a p) X.env v = (do
      let ov ← holding [v] (eval (.Name x px) X.env)
      let iv ← holding [v, ov] (eval a X.env)
      standAt p
      holding [v, ov, iv] (setItem ov iv v)
      release [v, ov, iv] []) := by
    intro v
    cases a <;> first | rfl | cases na
  refine PS.imp (ps_asg (he.1 false) (pg_sub (pe_var (i := i) (by rw [gd.hN]; exact hi) (gd.vis hv) hd hcd) (ha.1 true) set_list hrel) (by cases e <;> first | rfl | cases ne) (by cases e <;> rfl) rfl) fun D σ H ⟨O, H0, A, ρ, out, ok, ev, q⟩ => ?_
  simp only [evS] at ev
  obtain ⟨r, e1, ev2⟩ := bind_some ev
  obtain ⟨ds, e2, ev3⟩ := bind_some ev2
  obtain ⟨r1, e3, ev4⟩ := bind_some ev3
  obtain ⟨b, xs, hA, hs, hH, hr⟩ := ok.owned e2
  refine ⟨O, H0, A, ρ, r, ok, e1, fun v H1 s1 h1 => ⟨.ref b, hs, ⟨O, H0, A, ρ, r1, ok.same s1, e3, fun v1 H2 s2 h2 => ?_⟩⟩⟩
  have hv1 := rpB_of (ok.same s1) s2 h2
  obtain ⟨fl, d⟩ := r1
  cases d <;> try cases ev4
  rename_i j
  have ev4 : ((putD ds j r.2).map fun ds' => Out.nx (ρ.set i (some (true, .list ds')))) = some out := ev4
  obtain ⟨ds', e5, e6⟩ := map_some ev4
  subst e6
  unfold putD at e5
  obtain ⟨m, e6, e7⟩ := map_some e5
  subst e7
  have := hv1.int
  subst this
  have hr2 := (hr.same s1).same s2
  refine ⟨b, xs, j, m, rfl, rfl, s2 _ _ (s1 _ _ hH), by rw [hr.length]; exact e6, ?_⟩
  have ok2 := (ok.same s1).same s2
  exact q A σ _ (ok2.upd hA hs (RpA.set ((ok.down s1 h1.toR).same s2) m hr2)) ((Stp.same (s1.trans s2)).trans (Stp.upd hA))
theorem s_pop (gd : Good c k sc X) {x : Str} {px apos cpos pos : Pos} {tg : Expr} {g : G} {i : Nat} (hg : CG c sc tg g) (hi : c.N[i]? = some x) (hv : vis sc x) (hd : (x == ("__debug__" : Str)) = false) (hcd : (x == ("__classdict__" : Str)) = false) (hl : (apos.endLine == cpos.line) = true) :
    PS X (.Assign [tg] (.Call (.Attribute (.Name x px) "pop" apos) [] [] cpos) pos) (tS X.K n (.pop g i)) := by
  have h0 : (assignEach [tg] X.env).map (·.2) = [assign tg X.env] := by rw [assignEach_cons (noStarG hg)]; rfl
  refine PS.imp (ps_asg (pe_bm0 PySem.F.plainAttrs_list PySem.F.slot_list_pop PySem.F.type_list_pop mt_pop (pe_var (i := i) (by rw [gd.hN]; exact hi) (gd.vis hv) hd hcd) rfl hl) (soundG gd hg) (by cases hg <;> rfl) (by cases hg <;> rfl) h0) fun D σ H ⟨O, H0, A, ρ, out, ok, ev, q⟩ => ?_
  simp only [evS] at ev
  obtain ⟨ds, e1, ev2⟩ := bind_some ev
  obtain ⟨a, xs, hA, hs, hH, hr⟩ := ok.owned e1
  split at ev2
  · cases ev2
  · rename_i d e2
    obtain ⟨ρ', e3, e4⟩ := map_some ev2
    subst e4
    rw [List.getLast?_eq_getElem?] at e2
    obtain ⟨v, hv, hrv⟩ := hr.get e2
    refine ⟨.ref a, hs, .inl ⟨rfl, xs, .inl (.inl hH)⟩, a, xs, v, rfl, rfl, hH, by rw [hr.length]; exact hv, ?_⟩
    have ok1 := ok.upd hA hs hr.dropLast
    have hv1 : Rp X.K (L2.upd H a (.lst xs.dropLast)) (Ow O A) v d := Rp.keep (Stp.upd hA).1 (fun _ z => .inl z) _ _ hrv
    exact ⟨O, H0, A, _, ρ', d, ok1, hv1, e3, fun σ' ok' _ => q A σ' _ ok' (Stp.upd hA)⟩
/-- return -/
theorem s_ret (gd : Good c k sc X) {e : Expr} {pos : Pos} {x : E} (hc : CE c sc e x) (he : Both X e x) : PS X (.Return (some e) pos) (tS X.K n (.ret x)) := by
  have gen : (∀ i, x ≠ .v i) → PS X (.Return (some e) pos) (tS X.K n (.ret x)) := fun hx => by
    refine PS.imp (ps_ret (he.1 false)) fun D σ H ⟨O, H0, A, ρ, out, ok, ev, q⟩ => ?_
    have ev' : (evE x false ρ).map Out.rt = some out := by
      simp only [evS] at ev
      cases x <;> first | exact ev | exact absurd rfl (hx _)
    obtain ⟨r, e1, e2⟩ := map_some ev'
    subst e2
    exact ⟨O, H0, A, ρ, r, ok, e1, fun v H1 s1 h1 => q v H1 (ok.grow.trans s1) (RpR.up ok.grow (h1.toR.fewer fun a z => .inl z))⟩
  cases hc
  case name =>
    rename_i y py i h1 h3 h4 h2
    refine PS.imp (ps_ret (pe_var (i := i) (by rw [gd.hN]; exact h1) (gd.vis h2) h3 h4)) fun D σ H ⟨O, H0, A, ρ, out, ok, ev, q⟩ => ?_
    simp only [evS] at ev
    obtain ⟨r, e1, e2⟩ := map_some ev
    subst e2
    have e1 : (match ρ[i]? with | some (some r) => lessR r | _ => none) = some r := e1
    split at e1
    · rename_i r' e3
      obtain ⟨v, e4, h⟩ := ok.val i _ e3
      refine ⟨v, e4, q v H ok.grow ?_⟩
      have hi : i < 1000 := by
        obtain ⟨z, -⟩ := List.getElem?_eq_some_iff.mp e3
        have := ok.sm
        omega
      unfold lessR at e1
      split at e1
      · cases e1
        obtain ⟨a, q1, q2, xs, q4, h⟩ := h
        exact ⟨a, xs, _, q2, rfl, q4, ok.new i a q1, h.less fun b z => z.elim .inl fun z => .inr ⟨i, by rw [z]; exact q1⟩⟩
      · cases e1
        obtain ⟨a, q1, q2, bs, q4, q5, h⟩ := h
        refine ⟨a, _, _, q2, rfl, q4, ok.new i a q1, RpA.each (by rw [List.length_map, q5]) fun m w d hw hd => ?_⟩
        rw [List.getElem?_map] at hw
        obtain ⟨b, hb, rfl⟩ := Option.map_eq_some_iff.mp hw
        obtain ⟨z1, xs, ds, rfl, z3, z4⟩ := h m b d hb hd
        refine .lst (.inl z3) (fun z => ?_) (z4.less fun b z => z.elim .inl fun z => .inr ⟨i, by rw [z]; exact q1⟩)
        rcases z with z | z
        · obtain ⟨o, z5, -⟩ := ok.odom b z
          rw [ok.new _ b z1] at z5; cases z5
        · subst z
          exact vt_ne hi (ok.inj _ _ b z1 q1)
      · cases e1
      · cases e1
        exact Rp.less h fun a z => .inl z
    · cases e1
  case and h => cases h; exact gen fun i => fun z => nomatch z
  case or h => cases h; exact gen fun i => fun z => nomatch z
  all_goals exact gen fun i => fun z => nomatch z
theorem s_retN {pos : Pos} : PS X (.Return none pos) (tS X.K n .retN) := by
  refine PS.imp ps_retN fun D σ H ⟨O, H0, A, ρ, out, ok, ev, q⟩ => ?_
  simp only [evS] at ev
  cases ev
  exact q .non H ok.grow .non
/-- blocks -/
theorem ss_nil : PSs X [] (tSs X.K n .nil) := by
  refine PSs.imp pss_nil fun D σ H ⟨O, H0, A, ρ, out, ok, ev, q⟩ => ?_
  simp only [evSs] at ev
  cases ev
  exact q A σ H ok Stp.refl
theorem ss_cons {st : Stmt} {sts : List Stmt} {s : S} {ss : Ss} (h1 : PS X st (tS X.K n s)) (h2 : PSs X sts (tSs X.K n ss)) : PSs X (st :: sts) (tSs X.K n (.cons s ss)) := by
  refine PSs.imp (pss_cons h1 h2) fun D σ H ⟨O, H0, A, ρ, out, ok, ev, q⟩ => ?_
  simp only [evSs] at ev
  split at ev
  · rename_i ρ2 e
    exact ⟨O, H0, A, ρ, _, ok, e, fun A' σ' H' ok' st => ⟨O, H0, A', ρ2, out, ok', ev, q.later st⟩⟩
  · rename_i hne
    refine ⟨O, H0, A, ρ, out, ok, ev, ?_⟩
    cases out with
    | nx ρ' => exact absurd ev (hne ρ')
    | bk ρ' => exact q
    | ct ρ' => exact q
    | rt r => exact q
theorem ss_share {sts : List Stmt} {i : Nat} {ss : Ss} (h2 : PSs X sts (tSs X.K n ss)) : PSs X sts (tSs X.K n (.cons (.share i) ss)) := by
  refine PSs.imp h2 fun D σ H ⟨O, H0, A, ρ, out, ok, ev, q⟩ => ?_
  simp only [evSs, evS] at ev
  cases e : ρ[i]? with
  | none =>
    rw [e] at ev
    exact ⟨O, H0, A, ρ, out, ok, ev, q⟩
  | some o =>
    rw [e] at ev
    match o, e, ev with
    | none, e, ev => exact ⟨O, H0, A, ρ, out, ok, ev, q⟩
    | some (false, d), e, ev => exact ⟨O, H0, A, ρ, out, ok, ev, q⟩
    | some (true, .list ds), e, ev => exact ⟨O, H0, _, _, out, ok.share e, ev, q.later Stp.give⟩
    | some (true, .tuple rows), e, ev => exact ⟨O, H0, _, _, out, ok.shareD e, ev, q.later Stp.give⟩
    | some (true, .dict kvs), e, ev => exact ⟨O, H0, _, _, out, ok.give (q := none) (fun r e => nomatch e), ev, q.later Stp.give⟩
    | some (true, .none), e, ev => cases ev
    | some (true, .bool b), e, ev => cases ev
    | some (true, .int j), e, ev => cases ev
    | some (true, .str x), e, ev => cases ev
theorem s_if {t : Expr} {a b : List Stmt} {pos : Pos} {z : E} {xa xb : Ss} (ht : Both X t z) (ha : PSs X a (tSs X.K n xa)) (hb : PSs X b (tSs X.K n xb)) : PS X (.If t a b pos) (tS X.K n (.ite z xa xb)) := by
  refine PS.imp (ps_if ht.2 ha hb) fun D σ H ⟨O, H0, A, ρ, out, ok, ev, q⟩ => ?_
  simp only [evS] at ev
  obtain ⟨kk, e1, ev2⟩ := bind_some ev
  refine ⟨O, H0, A, ρ, kk, ok, e1, fun H1 s1 => ?_⟩
  cases kk with
  | true => exact ⟨O, H0, A, ρ, out, ok.same s1, ev2, q.later (Stp.same s1)⟩
  | false => exact ⟨O, H0, A, ρ, out, ok.same s1, ev2, q.later (Stp.same s1)⟩
theorem s_for (gd : Good c k sc X) {tg iter : Expr} {body : List Stmt} {pos : Pos} {g : G} {it : I} {b : Ss} (hg : CG c sc tg g) (hi : ∀ b, PI X tg iter (tI X.K it b)) (hs : noSet iter = true) (hb : PSs X body (tSs X.K n b)) : PS X (.For tg iter body [] pos) (tS X.K n (.for_ g it b)) := by
  refine PS.imp (ps_for gd.pass gd.calm (hi false) (soundG gd hg) hb (noset_of hs X.env)) fun D σ H ⟨O, H0, A, ρ, out, ok, ev, q⟩ => ?_
  simp only [evS] at ev
  obtain ⟨ds, e1, ev2⟩ := bind_some ev
  generalize hF : (fun ρ => evSs n b ρ) = F at ev2
  refine ⟨O, H0, A, ρ, ds, ok, e1, fun J H1 s1 _ wk => ?_⟩
  have st0 : Stp O A H A H1 := Stp.same s1
  refine ⟨fun i m σ' H' => m = ds.length - i ∧ i ≤ ds.length ∧ ∃ A' ρ', Ok X.K O H0 A' H' σ' ρ' ∧ Stp O A H1 A' H' ∧ forGo g F (ds.drop i) ρ' = some out, ⟨ds.length, rfl, Nat.zero_le _, A, ρ, ok.same s1, Stp.refl, ev2⟩, ?_⟩
  rintro i m σ' H' ⟨rfl, hil, A', ρ', ok', st, ef⟩
  have hk : KpOf false H1 O (Ow O A) H' := fun a o e n => st.1 a o e n
  by_cases hlt : i < ds.length
  · have hdr : ds.drop i = ds[i] :: ds.drop (i + 1) := List.drop_eq_getElem_cons hlt
    rw [hdr] at ef
    obtain ⟨go, yld⟩ := (wk H' hk i).1 _ (List.getElem?_eq_getElem hlt)
    refine .inr ⟨go, fun σ' H' => ∃ A' ρ', Ok X.K O H0 A' H' σ' ρ' ∧ Stp O A H1 A' H' ∧ forGo g F (ds.drop (i + 1)) ρ' = some out, fun σ' H' h' => ⟨ds.length - (i + 1), by omega, rfl, hlt, h'⟩, fun v0 H2 hy => ?_⟩
    obtain ⟨e6, hx⟩ := yld v0 H2 hy
    subst e6
    have hx' : Rp X.K H2 (Ow O A') v0 ds[i] := Rp.keep st.1 st.2 _ _ hx
    unfold forGo at ef
    split at ef
    · cases ef
    · rename_i ρ1 ea
      refine ⟨O, H0, A', ρ', ρ1, ds[i], ok', hx', ea, fun σ2 ok2 _ => ?_⟩
      have fin : ∀ {out2 : Out}, F ρ1 = some out2 → Post X.K O H0 A' H2 { D with nx := fun σ' H' => ∃ A' ρ', Ok X.K O H0 A' H' σ' ρ' ∧ Stp O A H1 A' H' ∧ forGo g F (ds.drop (i + 1)) ρ' = some out, ct := fun σ' H' => ∃ A' ρ', Ok X.K O H0 A' H' σ' ρ' ∧ Stp O A H1 A' H' ∧ forGo g F (ds.drop (i + 1)) ρ' = some out, bk := D.nx } out2 →
          tSs X.K n b { D with nx := fun σ' H' => ∃ A' ρ', Ok X.K O H0 A' H' σ' ρ' ∧ Stp O A H1 A' H' ∧ forGo g F (ds.drop (i + 1)) ρ' = some out, ct := fun σ' H' => ∃ A' ρ', Ok X.K O H0 A' H' σ' ρ' ∧ Stp O A H1 A' H' ∧ forGo g F (ds.drop (i + 1)) ρ' = some out, bk := D.nx } σ2 H2 :=
        fun {out2} e p => ⟨O, H0, A', ρ1, out2, ok2, by rw [← hF] at e; exact e, p⟩
      split at ef
      · rename_i ρ2 eb
        exact fin eb fun A2 σ3 H3 ok3 st3 => ⟨A2, ρ2, ok3, st.trans st3, ef⟩
      · rename_i ρ2 eb
        exact fin eb fun A2 σ3 H3 ok3 st3 => ⟨A2, ρ2, ok3, st.trans st3, ef⟩
      · rename_i ρ2 eb
        cases ef
        exact fin eb fun A2 σ3 H3 ok3 st3 => q A2 σ3 H3 ok3 (st0.trans (st.trans st3))
      · rename_i r eb
        cases ef
        exact fin eb q
      · cases ef
  · have hi' : i = ds.length := by omega
    subst hi'
    rw [List.drop_length] at ef
    cases ef
    exact .inl ⟨(wk H' hk _).2 (Nat.le_refl _), q A' σ' H' ok' (st0.trans st)⟩
theorem s_while (gd : Good c k sc X) {t : Expr} {body : List Stmt} {pos : Pos} {z : E} {b : Ss} (ht : Both X t z) (hb : PSs X body (tSs X.K n b)) : PS X (.While t body [] pos) (tS X.K n (.while_ z b)) := by
  refine PS.imp (ps_while gd.pass ht.2 hb) fun D σ H ⟨O, H0, A, ρ, out, ok, ev, q⟩ => ?_
  simp only [evS] at ev
  generalize hF : (fun ρ => evSs n b ρ) = F at ev
  refine ⟨fun m σ' H' => ∃ A' ρ', Ok X.K O H0 A' H' σ' ρ' ∧ Stp O A H A' H' ∧ whileGo (fun ρ => evT z ρ) F m ρ' = some out, ⟨n, A, ρ, ok, Stp.refl, ev⟩, ?_⟩
  rintro m σ' H' ⟨A', ρ', ok', st, ef⟩
  cases m with
  | zero => cases ef
  | succ m =>
    unfold whileGo at ef
    split at ef
    · cases ef
    · rename_i ec
      cases ef
      exact ⟨O, H0, A', ρ', false, ok', ec, fun H1 s1 => q A' σ' H1 (ok'.same s1) (st.trans (Stp.same s1))⟩
    · rename_i ec
      refine ⟨O, H0, A', ρ', true, ok', ec, fun H1 s1 => ?_⟩
      refine ⟨fun σ2 H2 => ∃ A2 ρ2, Ok X.K O H0 A2 H2 σ2 ρ2 ∧ Stp O A H A2 H2 ∧ whileGo (fun ρ => evT z ρ) F m ρ2 = some out, fun σ2 H2 h => ⟨m, Nat.lt_succ_self m, h⟩, ?_⟩
      have ok1 := ok'.same s1
      have st1 := st.trans (Stp.same s1)
      have fin : ∀ {out2 : Out}, F ρ' = some out2 → Post X.K O H0 A' H1 { D with nx := fun σ2 H2 => ∃ A2 ρ2, Ok X.K O H0 A2 H2 σ2 ρ2 ∧ Stp O A H A2 H2 ∧ whileGo (fun ρ => evT z ρ) F m ρ2 = some out, ct := fun σ2 H2 => ∃ A2 ρ2, Ok X.K O H0 A2 H2 σ2 ρ2 ∧ Stp O A H A2 H2 ∧ whileGo (fun ρ => evT z ρ) F m ρ2 = some out, bk := D.nx } out2 →
          tSs X.K n b { D with nx := fun σ2 H2 => ∃ A2 ρ2, Ok X.K O H0 A2 H2 σ2 ρ2 ∧ Stp O A H A2 H2 ∧ whileGo (fun ρ => evT z ρ) F m ρ2 = some out, ct := fun σ2 H2 => ∃ A2 ρ2, Ok X.K O H0 A2 H2 σ2 ρ2 ∧ Stp O A H A2 H2 ∧ whileGo (fun ρ => evT z ρ) F m ρ2 = some out, bk := D.nx } σ' H1 :=
        fun {out2} e p => ⟨O, H0, A', ρ', out2, ok1, by rw [← hF] at e; exact e, p⟩
      split at ef
      · rename_i ρ2 eb
        exact fin eb fun A2 σ3 H3 ok3 st3 => ⟨A2, ρ2, ok3, st1.trans st3, ef⟩
      · rename_i ρ2 eb
        exact fin eb fun A2 σ3 H3 ok3 st3 => ⟨A2, ρ2, ok3, st1.trans st3, ef⟩
      · rename_i ρ2 eb
        cases ef
        exact fin eb fun A2 σ3 H3 ok3 st3 => q A2 σ3 H3 ok3 (st1.trans st3)
      · rename_i r eb
        cases ef
        exact fin eb q
      · cases ef
end
section
variable {c : Cfg} {k n : Nat} {sc : Sc} {X : Cx}
theorem s_anyLc (gd : Good c k sc X) {y : Str} {py pos spos : Pos} {elt : Expr} {gs : List Comprehension} {scope : Scope} {i : Nat} {x : E} (hi : c.N[i]? = some y) (hy : sc.lookup y = some .local) (hc : CE c sc (.ListComp elt gs scope pos) x) (hs : yesSwap sc (.Name y py) (.ListComp elt gs scope pos) = true)
    {s : S} (fin : ∀ (D : Ends) (σ : L2.St) (H : Hp), tS X.K n s D σ H → tE X.K x false σ H fun v H1 => D.nx (σ.set i (some v)) H1) :
    PS X (.Assign [.Name y py] (.ListComp elt gs scope pos) spos) (tS X.K n s) := by
  have hsw := yesSwap_ok gd hs spos.line
  have hi' : X.N[i]? = some y := by rw [gd.hN]; exact hi
  have nd' : X.N.Nodup := by rw [gd.hN]; exact gd.nd
  cases hc with
  | comp h1 h2 h3 h4 hb hg hns =>
    exact PS.imp (ps_setLc (wi := tI X.K _ true) (g := tG X.K _) (tt := tC X.K _) (te := tE X.K _ false) gd.calm nd' hi' (gd.lc y hy) hsw (soundI h1 gd true) (blk_ok gd hb) (fun s H C cl fp => soundG (good_blk gd hb s H C cl fp) h2) (fun s H C cl fp => soundC h3 (good_blk gd hb s H C cl fp)) (fun s H C cl fp => (soundE h4 (good_blk gd hb s H C cl fp)).1 false)
      (noset_of hns X.env)) fun D σ H q => rd_comp hg false σ H _ (fin D σ H q)
  | comp2 h1 h2 h3 h4 h5 h6 h7 hb hg hg1 ho hns hns1 =>
    exact PS.imp (ps_setLc2 (wi := tI X.K _ true) (g := tG X.K _) (tt := tC X.K _) (wi1 := tI X.K _ true) (g1 := tG X.K _) (tt1 := tC X.K _) (te := tE X.K _ false) gd.calm nd' hi' (gd.lc y hy) hsw (soundI h1 gd true) (blk_ok gd hb) (mem_of_all ho)
      (fun s H C cl fp => soundG (good_blk gd hb s H C cl fp) h2) (fun s H C cl fp => soundC h3 (good_blk gd hb s H C cl fp)) (fun s H C cl fp => soundI h4 (good_blk gd hb s H C cl fp) true) (fun s H C cl fp => soundG (good_blk gd hb s H C cl fp) h5) (fun s H C cl fp => soundC h6 (good_blk gd hb s H C cl fp)) (fun s H C cl fp => (soundE h7 (good_blk gd hb s H C cl fp)).1 false)
      (noset_of hns X.env) (fun env => noset_of hns1 env)) fun D σ H q => rd_comp2 hg hg1 false σ H _ (fin D σ H q)
theorem fin_asg {K : PySem.W.Frag} {i : Nat} {x : E} (D : Ends) (σ : L2.St) (H : Hp) (h : tS K n (.asg (.nm i) x) D σ H) : tE K x false σ H fun v H1 => D.nx (σ.set i (some v)) H1 := by
  obtain ⟨O, H0, A, ρ, out, ok, ev, q⟩ := h
  simp only [evS, asgR] at ev
  obtain ⟨r, e1, ev2⟩ := bind_some ev
  cases ev2
  refine ⟨O, H0, A, ρ, r, ok, e1, fun v H1 s1 h1 => ?_⟩
  obtain ⟨A', ok', st⟩ := ok.store s1 h1.toR
  exact q A' _ H1 ok' st
theorem fin_asgs {K : PySem.W.Frag} {i : Nat} {x : E} (D : Ends) (σ : L2.St) (H : Hp) (h : tS K n (.asgs i x) D σ H) : tE K x false σ H fun v H1 => D.nx (σ.set i (some v)) H1 := by
  obtain ⟨O, H0, A, ρ, out, ok, ev, q⟩ := h
  simp only [evS] at ev
  obtain ⟨r, e1, ev2⟩ := map_some ev
  cases ev2
  exact ⟨O, H0, A, ρ, r, ok, e1, fun v H1 s1 h1 => q A _ H1 ((ok.same s1).set (ok.down s1 h1.toR)) (Stp.same s1)⟩
theorem s_asgs (gd : Good c k sc X) {y : Str} {py pos : Pos} {e : Expr} {i : Nat} {x : E} (hi : c.N[i]? = some y) (hl : loc sc y) (he : Both X e x) (h1 : noSwap sc (.Name y py) e = true) : PS X (.Assign [.Name y py] e pos) (tS X.K n (.asgs i x)) :=
  PS.imp (ps_asg (he.1 false) (pg_name (i := i) (by rw [gd.hN]; exact gd.nd) (by rw [gd.hN]; exact hi) (gd.loc hl).1 (gd.loc hl).2) (noSwap_ok gd (.nm hi hl) h1 _) (by cases e <;> rfl) rfl) fun D σ H q => fin_asgs D σ H q
/-! ### lists of own lists, dicts -/
theorem paired_app {α β : Type} {F : α → β → Prop} {l1 l2 : List α} {m1 m2 : List β} (h : Paired F l1 m1) (g : Paired F l2 m2) : Paired F (l1 ++ l2) (m1 ++ m2) := by
  induction h with
  | nil => exact g
  | cons h t ih => exact .cons h ih
theorem paired_map {α : Type} [DecidableEq α] {F : α × V → PyData × PyData → Prop} {E : α → PyData → Prop} {v : V} {w : PyData} {ys : List (α × V)} {kvs : List (PyData × PyData)} (hF : ∀ p q, F p q → E p.1 q.1) (kn : α) (kd : PyData) (hk : ∀ a d, E a d → (a = kn ↔ keyI d = keyI kd)) (hnew : ∀ a d, E a d → F (a, v) (d, w)) (h : Paired F ys kvs) :
    Paired F (ys.map fun kv => if kv.1 = kn then (kv.1, v) else kv) (kvs.map fun p => if keyEq p.1 kd then (p.1, w) else p) := by
  induction h with
  | nil => exact .nil
  | @cons p q ys kvs h t ih =>
    refine .cons ?_ ih
    show F (if p.1 = kn then (p.1, v) else p) (if keyEq q.1 kd then (q.1, w) else q)
    by_cases c : p.1 = kn
    · rw [if_pos c, if_pos (show keyEq q.1 kd = true from decide_eq_true ((hk _ _ (hF _ _ h)).mp c))]
      exact hnew _ _ (hF _ _ h)
    · rw [if_neg c, if_neg (show ¬ keyEq q.1 kd = true from fun z => c ((hk _ _ (hF _ _ h)).mpr (of_decide_eq_true z)))]
      exact h
/-- new objects stand by -/
theorem Ok.withs {K : PySem.W.Frag} {O : Set0} {H0 H Hc : Hp} {A : Nat → Option Addr} {σ : L2.St} {ρ : Sl} {ws : List Addr} (ok : Ok K O H0 A H σ ρ) (s : Same H Hc) (hn : ∀ w ∈ ws, H w = none ∧ ∃ o, Hc w = some o ∧ OO o) :
    Ok K (fun a => O a ∨ a ∈ ws) (fun a => if a ∈ ws then Hc a else H0 a) A Hc σ ρ := by
  have nA : ∀ i a, A i = some a → a ∉ ws := fun i a e z => by
    obtain ⟨xs, q, -⟩ := ok.dom i a e
    rw [(hn a z).1] at q; cases q
  have sub : ∀ a, Ow (fun a => O a ∨ a ∈ ws) A a → Ow O A a ∨ H a = none := fun a z => by
    rcases z with (z | z) | z
    · exact .inl (.inl z)
    · exact .inr (hn a z).1
    · exact .inl (.inr z)
  refine ⟨ok.len, ok.sm, fun a o e => ?_, ok.inj, fun i a e => ?_, fun i a e => ?_, fun a z => ?_, fun i r e => ?_⟩
  · by_cases ha : a ∈ ws
    · simp only [ha, if_true] at e; exact e
    · simp only [ha, if_false] at e
      exact s _ _ (ok.grow _ _ e)
  · simp only [nA i a e, if_false]; exact ok.new i a e
  · obtain ⟨xs, q, w⟩ := ok.dom i a e
    exact ⟨xs, s _ _ q, w⟩
  · by_cases ha : a ∈ ws
    · simp only [ha, if_true]; exact (hn a ha).2
    · simp only [ha, if_false]
      rcases z with z | z
      · exact ok.odom a z
      · exact absurd z ha
  · obtain ⟨v, e1, h⟩ := ok.val i r e
    exact ⟨v, e1, RpS.keep (fun a o e _ => s a o e) sub (fun j b _ e => ⟨e, fun o q => s b o q⟩) h⟩
def RowsAt (K : PySem.W.Frag) (H : Hp) (P : Set0) (bs : List Addr) (rows : List PyData) : Prop := Paired (fun b row => ∃ xs ds, row = PyData.list ds ∧ H b = some (.lst xs) ∧ RpA K H P xs ds) bs rows
theorem RowsAt.keep {K : PySem.W.Frag} {H H' : Hp} {P P' : Set0} {bs : List Addr} {rows : List PyData} (k : ∀ a o, H a = some o → ¬ P a → H' a = some o) (hO : ∀ a, P' a → P a ∨ H a = none) (hb : ∀ b ∈ bs, ∀ o, H b = some o → H' b = some o) (h : RowsAt K H P bs rows) : RowsAt K H' P' bs rows := by
  induction h with
  | nil => exact .nil
  | cons h t ih =>
    obtain ⟨xs, ds, e1, e2, e3⟩ := h
    exact .cons ⟨xs, ds, e1, hb _ List.mem_cons_self _ e2, RpA.keep k hO _ _ e3⟩ (ih fun b z => hb b (List.mem_cons_of_mem _ z))
theorem RowsAt.get {K : PySem.W.Frag} {H : Hp} {P : Set0} {bs : List Addr} {rows : List PyData} (h : RowsAt K H P bs rows) : ∀ (k : Nat) b row, bs[k]? = some b → rows[k]? = some row → ∃ xs ds, row = PyData.list ds ∧ H b = some (.lst xs) ∧ RpA K H P xs ds := by
  induction h with
  | nil => intro k b row e; cases e
  | cons h t ih =>
    intro k b row e1 e2
    cases k with
    | zero => cases e1; cases e2; exact h
    | succ k => exact ih k b row e1 e2
def rowF (g : G) (own : List Nat) (ρ : Sl) (elt : E) : PyData → Option (Option PyData) := fun d => (asg g d (wipeR ρ own)).bind fun ρ2 => (evE elt false ρ2).bind rowR
theorem rowF_inv {g : G} {own : List Nat} {ρ : Sl} {elt : E} {d : PyData} {o : Option PyData} (h : rowF g own ρ elt d = some o) : ∃ ρ2 ds, asg g d (wipeR ρ own) = some ρ2 ∧ evE elt false ρ2 = some (true, .list ds) ∧ o = some (.list ds) := by
  obtain ⟨ρ2, e1, h⟩ := bind_some h
  obtain ⟨r, e2, h⟩ := bind_some h
  unfold rowR at h
  split at h
  · cases h; exact ⟨ρ2, _, e1, e2, rfl⟩
  · cases h
theorem rd_compD {K : PySem.W.Frag} {own : List (Str × Nat)} {g : G} {it : I} {x : E} {i : Nat} {D : Ends} (hgs : (gslots g).all (fun i => (own.map (·.2)).contains i) = true) (σ : L2.St) (H : Hp) (hq : tS K n (.newD i (own.map (·.2)) g it x) D σ H) :
    tLc (tI K it true) (tG K g) (tC K .no) (tE K x false) (own.map (·.2)) σ H fun v H1 => D.nx (σ.set i (some v)) H1 := by
  obtain ⟨O, H0, A, ρ, out, ok, ev, q⟩ := hq
  simp only [evS] at ev
  obtain ⟨ds, e1, ev2⟩ := bind_some ev
  obtain ⟨ys, e2, e3⟩ := map_some ev2
  subst e3
  have e2 : compGo (rowF g (own.map (·.2)) ρ x) ds = some ys := e2
  refine ⟨O, H0, A, ρ, ds, ok, e1, fun J H1 s1 hz wk L hL => ?_⟩
  have hn : H L = none := s1.free hL
  -- so far: rows at bs
  refine ⟨fun j m Hc => m = ds.length - j ∧ j ≤ ds.length ∧ ∃ bs ys1 ys2, Hc L = some (.lst (bs.map V.ref)) ∧ (L :: bs).Nodup ∧ (∀ b ∈ bs, H1 b = none) ∧ RowsAt K Hc (fun a => Ow O A a ∨ a ∈ L :: bs) bs ys1 ∧ Same H1 Hc ∧ compGo (rowF g (own.map (·.2)) ρ x) (ds.drop j) = some ys2 ∧ ys = ys1 ++ ys2,
    ⟨ds.length, rfl, Nat.zero_le _, [], [], ys, upd_same, by simp, (fun _ z => nomatch z), .nil, same_upd hL, e2, rfl⟩, ?_⟩
  rintro j m Hc ⟨rfl, hil, bs, ys1, ys2, hDc, nd, fr, hr, sm, e4, e5⟩
  have hws : ∀ w ∈ L :: bs, H1 w = none ∧ ∃ o, Hc w = some o ∧ OO o := fun w hw => by
    rcases List.mem_cons.mp hw with rfl | hw
    · exact ⟨hL, _, hDc, .l _⟩
    · refine ⟨fr w hw, ?_⟩
      obtain ⟨k, hk⟩ := List.mem_iff_getElem?.mp hw
      have hl : k < ys1.length := by
        rw [← Paired.length hr]
        obtain ⟨z, -⟩ := List.getElem?_eq_some_iff.mp hk
        exact z
      obtain ⟨xs, _, -, z, -⟩ := hr.get k w _ hk (List.getElem?_eq_getElem hl)
      exact ⟨_, z, .l xs⟩
  by_cases hlt : j < ds.length
  · have hdr : ds.drop j = ds[j] :: ds.drop (j + 1) := List.drop_eq_getElem_cons hlt
    rw [hdr] at e4
    obtain ⟨go, yld⟩ := (wk Hc (KpOf.same sm) j).1 _ (List.getElem?_eq_getElem hlt)
    refine .inr ⟨go, fun H' => ∃ bs ys1 ys2, H' L = some (.lst (bs.map V.ref)) ∧ (L :: bs).Nodup ∧ (∀ b ∈ bs, H1 b = none) ∧ RowsAt K H' (fun a => Ow O A a ∨ a ∈ L :: bs) bs ys1 ∧ Same H1 H' ∧ compGo (rowF g (own.map (·.2)) ρ x) (ds.drop (j + 1)) = some ys2 ∧ ys = ys1 ++ ys2, fun H' h' => ⟨ds.length - (j + 1), by omega, rfl, hlt, h'⟩, fun v0 H' hy => ?_⟩
    obtain ⟨e6, hx⟩ := yld v0 H' hy
    subst e6
    have okD := (ok.same s1).withs sm hws
    have okW := okD.wipe (own.map (·.2))
    have hO : ∀ a, Ow (fun a => O a ∨ a ∈ L :: bs) A a → Ow O A a ∨ H1 a = none := fun a z => by
      rcases z with (z | z) | z
      · exact .inl (.inl z)
      · exact .inr (hws a z).1
      · exact .inl (.inr z)
    have hx' : Rp K H' (Ow (fun a => O a ∨ a ∈ L :: bs) A) v0 ds[j] := Rp.keep (fun a o e _ => sm a o e) hO _ _ hx
    obtain ⟨y, zs, hF, e7, e8⟩ : ∃ y zs, rowF g (own.map (·.2)) ρ x ds[j] = some (some y) ∧ compGo (rowF g (own.map (·.2)) ρ x) (ds.drop (j + 1)) = some zs ∧ ys2 = y :: zs := by
      rcases compGo_cons e4 with ⟨h1, h2⟩ | ⟨y, zs, h1, h2, h3⟩
      · obtain ⟨_, _, _, _, z⟩ := rowF_inv h1
        cases z
      · exact ⟨y, zs, h1, h2, h3⟩
    subst e8
    obtain ⟨ρ2, es, ea, ee, eo⟩ := rowF_inv hF
    cases eo
    refine ⟨_, _, A, _, ρ2, ds[j], okW, hx', ea, fun σ2 ok2 w2 => ⟨?_, ⟨_, _, A, ρ2, true, ok2, rfl, fun H3 s3 => ?_⟩⟩⟩
    · rw [w2 _ (mem_of_all hgs)]
      exact wipe_wipe fun _ h => h
    · show tE K x false σ2 H3 _
      refine ⟨_, _, A, ρ2, _, ok2.same s3, ee, fun v H4 s4 h4 => ?_⟩
      obtain ⟨b, xs, ds', rfl, e9, e10, e11, h5⟩ := h4
      cases e9
      have nb : b ∉ L :: bs := fun z => by
        obtain ⟨o, z1, -⟩ := (hws b z).2
        rw [s3 _ _ z1] at e11; cases e11
      have fb : H1 b = none := (sm.trans s3).free e11
      refine ⟨bs.map V.ref, s4 _ _ (s3 _ _ hDc), ?_, bs ++ [b], ys1 ++ [.list es], zs, by rw [upd_same, List.map_append]; rfl, ?_, fun w hw => ?_, ?_, fun a o e => ?_, e7, by rw [e5, List.append_assoc]; rfl⟩
      · have l1 := compGo_len e2
        have l2 := Paired.length hr
        rw [e5, List.length_append, List.length_cons] at l1
        rw [List.length_map]
        omega
      · have : (L :: (bs ++ [b])).Perm (b :: L :: bs) := (List.perm_append_comm (l₁ := L :: bs) (l₂ := [b]))
        exact this.symm.nodup (List.nodup_cons.mpr ⟨nb, nd⟩)
      · rcases List.mem_append.mp hw with hw | hw
        · exact fr w hw
        · rw [List.mem_singleton.mp hw]; exact fb
      · have nL : ∀ w ∈ bs ++ [b], w ≠ L := fun w hw z => by
          subst z
          rcases List.mem_append.mp hw with hw | hw
          · exact (List.nodup_cons.mp nd).1 hw
          · rw [List.mem_singleton.mp hw] at nb; exact nb List.mem_cons_self
        have kp : ∀ (P : Set0), P L → ∀ a o, H4 a = some o → ¬ P a → upd H4 L (.lst (bs.map V.ref ++ [.ref b])) a = some o := fun P hP a o e n => by
          rw [upd_ne (fun z => n (by rw [z]; exact hP))]; exact e
        have h1 : RowsAt K (upd H4 L (.lst (bs.map V.ref ++ [.ref b]))) (fun a => Ow O A a ∨ a ∈ L :: (bs ++ [b])) bs ys1 := by
          refine RowsAt.keep (H := H') (P := fun a => Ow O A a ∨ a ∈ L :: bs) (fun a o e n => ?_) (fun a z => ?_) (fun w hw o e => ?_) hr
          · exact kp (fun a => Ow O A a ∨ a ∈ L :: bs) (.inr List.mem_cons_self) a o (s4 _ _ (s3 _ _ e)) n
          · rcases z with z | z
            · exact .inl (.inl z)
            · rcases List.mem_cons.mp z with z | z
              · exact .inl (.inr (by rw [z]; exact List.mem_cons_self))
              · rcases List.mem_append.mp z with z | z
                · exact .inl (.inr (List.mem_cons_of_mem _ z))
                · exact .inr (by rw [List.mem_singleton.mp z]; exact s3.free e11)
          · rw [upd_ne (nL w (List.mem_append_left _ hw))]; exact s4 _ _ (s3 _ _ e)
        have h2 : RowsAt K (upd H4 L (.lst (bs.map V.ref ++ [.ref b]))) (fun a => Ow O A a ∨ a ∈ L :: (bs ++ [b])) [b] [.list es] := by
          refine .cons ⟨xs, es, rfl, by rw [upd_ne (nL b (List.mem_append_right _ List.mem_cons_self))]; exact e10, RpA.keep (kp _ (.inl (.inl (.inr List.mem_cons_self)))) (fun a z => .inl ?_) _ _ h5⟩ .nil
          rcases z with z | z
          · exact .inl (z.elim (fun z => .inl (.inl z)) .inr)
          · rcases List.mem_cons.mp z with z | z
            · exact .inl (.inl (.inr (by rw [z]; exact List.mem_cons_self)))
            · rcases List.mem_append.mp z with z | z
              · exact .inl (.inl (.inr (List.mem_cons_of_mem _ z)))
              · exact .inr (List.mem_singleton.mp z)
        exact paired_app h1 h2
      · rw [upd_ne (fun z => by rw [z, hL] at e; cases e)]
        exact s4 _ _ (s3 _ _ (sm _ _ e))
  · have hi' : j = ds.length := by omega
    subst hi'
    rw [List.drop_length] at e4
    cases e4
    rw [List.append_nil] at e5
    subst e5
    refine .inl ⟨(wk Hc (KpOf.same sm) _).2 (Nat.le_refl _), ?_⟩
    have sH : Same H Hc := s1.trans sm
    have ok2 := ok.putNew (i := i) (d := .tuple ys) sH hn (hws L List.mem_cons_self).2 (fun b hb => ⟨s1.free (fr b hb), (hws b (List.mem_cons_of_mem _ hb)).2⟩) nd (fun hi => ⟨bs, hDc, Paired.length hr, fun k b row hb hrow => by
      obtain ⟨xs, ds', z1, z2, z3⟩ := hr.get k b row hb hrow
      exact ⟨by rw [putA_vt hi]; exact hb, xs, ds', z1, z2, z3.less fun a z => z.elim .inl fun z => .inr (z.elim (fun z => by rw [z]; exact List.mem_cons_self) (List.mem_cons_of_mem _))⟩⟩)
    refine q _ _ Hc ok2 ⟨fun a o e _ => sH a o e, fun a z => ?_⟩
    rcases putA_ow z with z | z | z
    · exact .inl z
    · exact .inr (by rw [z]; exact hn)
    · exact .inr (s1.free (fr a z))
theorem s_newD (gd : Good c k sc X) {y : Str} {py pos spos : Pos} {elt tg iter : Expr} {scope : Scope} {i : Nat} {own : List (Str × Nat)} {g : G} {it : I} {x : E} (hi : c.N[i]? = some y) (hy : sc.lookup y = some .local) (h1 : CI c sc iter it) (h2 : CG c scope.names tg g) (h4 : CE c scope.names elt x)
    (hb : blkC c.N ⟨.function, sc, false, false, []⟩ scope own = true) (hg : (gslots g).all (fun i => (own.map (·.2)).contains i) = true) (hns : noSet iter = true) (hs : yesSwap sc (.Name y py) (.ListComp elt [⟨tg, iter, [], 0⟩] scope pos) = true) :
    PS X (.Assign [.Name y py] (.ListComp elt [⟨tg, iter, [], 0⟩] scope pos) spos) (tS X.K n (.newD i (own.map (·.2)) g it x)) := by
  have hsw := yesSwap_ok gd hs spos.line
  have hi' : X.N[i]? = some y := by rw [gd.hN]; exact hi
  have nd' : X.N.Nodup := by rw [gd.hN]; exact gd.nd
  exact PS.imp (ps_setLc (wi := tI X.K _ true) (g := tG X.K _) (tt := tC X.K .no) (te := tE X.K _ false) gd.calm nd' hi' (gd.lc y hy) hsw (soundI h1 gd true) (blk_ok gd hb) (fun s H C cl fp => soundG (good_blk gd hb s H C cl fp) h2) (fun s H C cl fp => s_cno) (fun s H C cl fp => (soundE h4 (good_blk gd hb s H C cl fp)).1 false)
      (noset_of hns X.env)) fun D σ H q => rd_compD hg σ H q
theorem map_ref_inj : ∀ {l m : List Addr}, l.map V.ref = m.map V.ref → l = m
  | [], [], _ => rfl
  | [], _ :: _, h => nomatch h
  | _ :: _, [], h => nomatch h
  | x :: l, y :: m, h => by
    rw [List.map_cons, List.map_cons] at h
    injection h with h1 h2
    injection h1 with h1
    rw [h1, map_ref_inj h2]
theorem getS {l : List PyData} {m k : Nat} {x row : PyData} (h : (l.set m x)[k]? = some row) : (k = m ∧ row = x) ∨ (k ≠ m ∧ l[k]? = some row) := by
  by_cases c : m = k
  · subst c
    by_cases hl : m < l.length
    · rw [List.getElem?_set_self hl] at h; exact .inl ⟨rfl, (Option.some.inj h).symm⟩
    · rw [List.getElem?_eq_none (by simpa using hl)] at h; cases h
  · rw [List.getElem?_set_ne c] at h
    exact .inr ⟨fun z => c z.symm, h⟩
/-- one of the own lists is another one -/
theorem Ok.row {K : PySem.W.Frag} {O : Set0} {H0 H : Hp} {A : Nat → Option Addr} {σ : L2.St} {ρ : Sl} (ok : Ok K O H0 A H σ ρ) {i m : Nat} {rows : List PyData} {a b : Addr} {bs : List Addr} {xs : List V} {ds : List PyData} (hsl : slot ρ i = some (true, .tuple rows)) (hA : A i = some a) (hv : σ[i]? = some (some (.ref a))) (hH : H a = some (.lst (bs.map V.ref))) (hl : bs.length = rows.length)
    (hr : ∀ (k : Nat) (b : Addr) row, bs[k]? = some b → rows[k]? = some row → A (vt i k) = some b ∧ ∃ xs ds, row = .list ds ∧ H b = some (.lst xs) ∧ RpA K H (Ow O A) xs ds) (hb : bs[m]? = some b) (hx : RpA K H (Ow O A) xs ds) :
    Ok K O H0 A (L2.upd H b (.lst xs)) σ (ρ.set i (some (true, .tuple (rows.set m (.list ds))))) ∧ A (vt i m) = some b := by
  have hm : m < rows.length := by
    obtain ⟨z, -⟩ := List.getElem?_eq_some_iff.mp hb
    omega
  obtain ⟨hAb, -⟩ := hr m b _ hb (List.getElem?_eq_getElem hm)
  refine ⟨?_, hAb⟩
  have kp : ∀ c o, H c = some o → ¬ Ow O A c → (L2.upd H b (.lst xs)) c = some o := fun c o e n => by
    rw [upd_ne (fun z => n (.inr ⟨_, by rw [z]; exact hAb⟩))]; exact e
  have nab : a ≠ b := fun z => by
    subst z
    have := ok.inj _ _ a hA hAb
    unfold vt at this
    omega
  refine ok.updAt (.inr ⟨m, rfl⟩) hAb hA hv (.l xs) ⟨bs, by rw [upd_ne nab]; exact hH, by rw [List.length_set]; exact hl, fun k c row h1 h2 => ?_⟩
  rcases getS h2 with ⟨rfl, rfl⟩ | ⟨hk, h2⟩
  · rw [hb] at h1
    cases h1
    exact ⟨hAb, xs, ds, rfl, upd_same, RpA.keep kp (fun _ z => .inl z) _ _ hx⟩
  · obtain ⟨z1, ys, es, z2, z3, z4⟩ := hr k c row h1 h2
    refine ⟨z1, ys, es, z2, ?_, RpA.keep kp (fun _ z => .inl z) _ _ z4⟩
    rw [upd_ne (fun z => ?_)]
    · exact z3
    · subst z
      have := ok.inj _ _ c z1 hAb
      unfold vt at this
      omega
theorem s_put2 (gd : Good c k sc X) {x : Str} {px p1 p pos : Pos} {a b e : Expr} {i : Nat} {xa xb y : E} (hi : c.N[i]? = some x) (hv : vis sc x) (hd : (x == ("__debug__" : Str)) = false) (hcd : (x == ("__classdict__" : Str)) = false) (ha : Both X a xa) (hb : Both X b xb) (he : Both X e y) (na : noSlice a = true) (nb : noSlice b = true) (ne : noComp e = true) :
    PS X (.Assign [.Subscript (.Subscript (.Name x px) a p1) b p] e pos) (tS X.K n (.put2 i xa xb y)) := by
  have hrel : ∀ v, assign (.Subscript (.Subscript (.Name x px) a p1) b p) X.env v = (do
      let ov ← holding [v] (eval (.Subscript (.Name x px) a p1) X.env)
      let iv ← holding [v, ov] (eval b X.env)
      standAt p
      holding [v, ov, iv] (setItem ov iv v)
      release [v, ov, iv] []) := by
    intro v
    cases b <;> first | rfl | cases nb
  refine PS.imp (ps_asg (he.1 false) (pg_sub (pe_ix ix_list (pe_var (i := i) (by rw [gd.hN]; exact hi) (gd.vis hv) hd hcd) (ha.1 true) (plain_ix na)) (hb.1 true) set_list hrel) (by cases e <;> first | rfl | cases ne) (by cases e <;> rfl) rfl) fun D σ H ⟨O, H0, A, ρ, out, ok, ev, q⟩ => ?_
  simp only [evS] at ev
  obtain ⟨r, e1, ev⟩ := bind_some ev
  obtain ⟨sl, e2, ev⟩ := bind_some ev
  obtain ⟨rows, e3, ev⟩ := bind_some ev
  obtain ⟨r1, e4, ev⟩ := bind_some ev
  obtain ⟨j, e5, ev⟩ := bind_some ev
  obtain ⟨m, e6, ev⟩ := bind_some ev
  obtain ⟨r2, e7, ev⟩ := bind_some ev
  obtain ⟨l, e8, ev⟩ := bind_some ev
  obtain ⟨row, e9, ev⟩ := bind_some ev
  obtain ⟨ds, e10, ev⟩ := bind_some ev
  obtain ⟨ds', e11, e12⟩ := map_some ev
  subst e12
  have := rowsOf_inv e3
  subst this
  have := listIt_inv e10
  subst this
  obtain ⟨a0, bs, q1, q2, q3, q4, q5⟩ := ok.deep e2
  have hat : atI rows j = some (.list ds) := by unfold atI; rw [e6]; exact e9
  obtain ⟨m', b0, q6, q7, q8, q9⟩ := at_row q4 hat
  rw [e6] at q6
  cases q6
  refine ⟨O, H0, A, ρ, r, ok, e1, fun v H1 s1 h1 => ⟨.ref a0, q2, O, H0, A, ρ, r1, ok.same s1, e4, fun v1 H2 s2 h2 => ⟨a0, _, j, .ref b0, rfl, rpB_int (rpB_of (ok.same s1) s2 h2) (asInt_inv e5), .inl (.inl (s2 _ _ (s1 _ _ q3))), q9, O, H0, A, ρ, r2, (ok.same s1).same s2, e7, fun v2 H3 s3 h3 => ?_⟩⟩⟩
  have ok3 := ((ok.same s1).same s2).same s3
  obtain ⟨a1, bs1, w1, w2, w3, w4, w5⟩ := ok3.deep e2
  have : a1 = a0 := by rw [q1] at w1; exact (Option.some.inj w1).symm
  subst this
  have : bs1 = bs := by
    have z := s3 _ _ (s2 _ _ (s1 _ _ q3))
    rw [z] at w3
    injection w3 with w3
    injection w3 with w3
    exact (map_ref_inj w3).symm
  subst this
  obtain ⟨z1, xs, es, z2, z3, z4⟩ := w5 m b0 _ q7 q8
  cases z2
  unfold putD at e11
  obtain ⟨t, e13, e14⟩ := map_some e11
  subst e14
  obtain ⟨ok4, hAb⟩ := ok3.row (m := m) (ds := ds.set t r.2) (xs := xs.set t v) e2 q1 q2 w3 w4 w5 q7 (RpA.set (((ok.down s1 h1.toR).same s2).same s3) t z4)
  refine ⟨b0, xs, l, t, rfl, rpB_int (rpB_of ((ok.same s1).same s2) s3 h3) (asInt_inv e8), z3, by rw [z4.length]; exact e13, ?_⟩
  exact q A σ _ ok4 ((Stp.same (s1.trans (s2.trans s3))).trans (Stp.upd hAb))
theorem s_app2 (gd : Good c k sc X) {x : Str} {px p1 apos cpos pos : Pos} {a e : Expr} {i : Nat} {xa y : E} (hi : c.N[i]? = some x) (hv : vis sc x) (hd : (x == ("__debug__" : Str)) = false) (hcd : (x == ("__classdict__" : Str)) = false) (ha : Both X a xa) (he : Both X e y) (na : noSlice a = true) (ne : noStar e = true) (hl : (apos.endLine == cpos.line) = true) :
    PS X (.Expr (.Call (.Attribute (.Subscript (.Name x px) a p1) "append" apos) [e] [] cpos) pos) (tS X.K n (.app2 i xa y)) := by
  have h1 : starEach [e] X.env = (false, eval e X.env) :: starEach [] X.env := starEach_cons ne
  refine PS.imp (ps_expr (pe_bm PySem.F.plainAttrs_list PySem.F.slot_list_append PySem.F.type_list_append mt_append (pe_ix ix_list (pe_var (i := i) (by rw [gd.hN]; exact hi) (gd.vis hv) hd hcd) (ha.1 true) (plain_ix na)) (pa_cons (he.1 false) pa_nil h1) rfl (by rw [h1]; rfl) hl h1 rfl)) fun D σ H ⟨O, H0, A, ρ, out, ok, ev, q⟩ => ?_
  simp only [evS] at ev
  obtain ⟨sl, e2, ev⟩ := bind_some ev
  obtain ⟨rows, e3, ev⟩ := bind_some ev
  obtain ⟨r1, e4, ev⟩ := bind_some ev
  obtain ⟨j, e5, ev⟩ := bind_some ev
  obtain ⟨m, e6, ev⟩ := bind_some ev
  obtain ⟨row, e9, ev⟩ := bind_some ev
  obtain ⟨ds, e10, ev⟩ := bind_some ev
  obtain ⟨r, e1, ev⟩ := bind_some ev
  split at ev
  case isFalse => cases ev
  rename_i hz
  cases ev
  have := rowsOf_inv e3
  subst this
  have := listIt_inv e10
  subst this
  obtain ⟨a0, bs, q1, q2, q3, q4, q5⟩ := ok.deep e2
  have hat : atI rows j = some (.list ds) := by unfold atI; rw [e6]; exact e9
  obtain ⟨m', b0, q6, q7, q8, q9⟩ := at_row q4 hat
  rw [e6] at q6
  cases q6
  obtain ⟨hAb, xs, es, z2, z3, z4⟩ := q5 m b0 _ q7 q8
  cases z2
  refine ⟨.ref a0, q2, O, H0, A, ρ, r1, ok, e4, fun v1 H1 s1 h1 => ⟨a0, _, j, .ref b0, rfl, rpB_int (rpB_of ok s1 h1) (asInt_inv e5), .inl (.inl (s1 _ _ q3)), q9, .inl ⟨rfl, xs, .inl (.inl (s1 _ _ z3))⟩, O, H0, A, ρ, r, ok.same s1, e1, fun v H2 s2 h2 => ?_⟩⟩
  have ok2 := (ok.same s1).same s2
  obtain ⟨a1, bs1, w1, w2, w3, w4, w5⟩ := ok2.deep e2
  have : a1 = a0 := by rw [q1] at w1; exact (Option.some.inj w1).symm
  subst this
  have : bs1 = bs := by
    have z := s2 _ _ (s1 _ _ q3)
    rw [z] at w3
    injection w3 with w3
    injection w3 with w3
    exact (map_ref_inj w3).symm
  subst this
  obtain ⟨ok4, -⟩ := ok2.row (m := m) (ds := ds ++ [r.2]) (xs := xs ++ [v]) e2 q1 q2 w3 w4 w5 q7 (((z4.same s1).same s2).append (.one ((ok.same s1).down s2 h2.toR)))
  refine ⟨b0, xs, v, rfl, rfl, s2 _ _ (s1 _ _ z3), ?_, ?_⟩
  · have := lenOk_le hz
    have l := z4.length
    omega
  · exact q A σ _ ok4 ((Stp.same (s1.trans s2)).trans (Stp.upd hAb))
theorem s_newM (gd : Good c k sc X) {x : Str} {px p pos : Pos} {i : Nat} {t : Bool} (hi : c.N[i]? = some x) (hl : loc sc x) : PS X (.Assign [.Name x px] (.Dict [] [] p) pos) (tS X.K n (.newM i t)) := by
  have go : ∀ (te : TE), PE X (.Dict [] [] p) te → (∀ D σ H, tS X.K n (.newM i t) D σ H → te σ H fun v H1 => D.nx (σ.set i (some v)) H1) → PS X (.Assign [.Name x px] (.Dict [] [] p) pos) (tS X.K n (.newM i t)) := fun te he h =>
    PS.imp (ps_asg he (pg_name (i := i) (by rw [gd.hN]; exact gd.nd) (by rw [gd.hN]; exact hi) (gd.loc hl).1 (gd.loc hl).2) rfl rfl rfl) h
  cases t with
  | true =>
    refine go _ pe_dnewT fun D σ H ⟨O, H0, A, ρ, out, ok, ev, q⟩ p hp => ?_
    simp only [evS] at ev
    cases ev
    have ok2 := ok.putNew (i := i) (a := p) (bs := []) (d := .dict [(.none, .bool true)]) (same_upd (o := .dT []) hp) hp ⟨_, upd_same, .inr (.inl ⟨[], rfl⟩)⟩ (fun _ z => nomatch z) (by simp) fun _ => ⟨[], upd_same, .nil⟩
    refine q _ _ _ ok2 ⟨fun a o e _ => same_upd hp a o e, fun a z => ?_⟩
    rcases putA_ow z with z | z | z
    · exact .inl z
    · exact .inr (by rw [z]; exact hp)
    · cases z
  | false =>
    refine go _ pe_dnewK fun D σ H ⟨O, H0, A, ρ, out, ok, ev, q⟩ p hp => ?_
    simp only [evS] at ev
    cases ev
    have ok2 := ok.putNew (i := i) (a := p) (bs := []) (d := .dict [(.none, .bool false)]) (same_upd (o := .dK []) hp) hp ⟨_, upd_same, .inr (.inr ⟨[], rfl⟩)⟩ (fun _ z => nomatch z) (by simp) fun _ => ⟨[], upd_same, .nil⟩
    refine q _ _ _ ok2 ⟨fun a o e _ => same_upd hp a o e, fun a z => ?_⟩
    rcases putA_ow z with z | z | z
    · exact .inl z
    · exact .inr (by rw [z]; exact hp)
    · cases z
theorem paired_put {α : Type} [DecidableEq α] {v : V} {w : PyData} {F : α × V → PyData × PyData → Prop} {E : α → PyData → Prop} {ys : List (α × V)} {kvs : List (PyData × PyData)} (hF : ∀ p q, F p q → E p.1 q.1) (kn : α) (kd : PyData) (hk : ∀ a d, E a d → (a = kn ↔ keyI d = keyI kd)) (hnew : ∀ a d, E a d → F (a, v) (d, w)) (he : E kn kd) (h : Paired F ys kvs) :
    Paired F (putK ys kn v) (putKv kvs kd w) := by
  have hany : (ys.any fun kv => decide (kv.1 = kn)) = kvs.any fun p => keyEq p.1 kd := by
    induction h with
    | nil => rfl
    | cons h t ih =>
      rw [List.any_cons, List.any_cons, ih]
      congr 1
      unfold keyEq
      exact decide_eq_decide.mpr (hk _ _ (hF _ _ h))
  unfold putK putKv
  rw [hany]
  split
  · exact paired_map hF kn kd hk hnew h
  · exact paired_app h (.cons (hnew _ _ he) .nil)
theorem s_putM (gd : Good c k sc X) {x : Str} {px p pos : Pos} {a e : Expr} {i : Nat} {xa y : E} (hdk : c.dk = true) (hi : c.N[i]? = some x) (hv : vis sc x) (hd : (x == ("__debug__" : Str)) = false) (hcd : (x == ("__classdict__" : Str)) = false) (ha : Both X a xa) (he : Both X e y) (na : noSlice a = true) (ne : noComp e = true) :
    PS X (.Assign [.Subscript (.Name x px) a p] e pos) (tS X.K n (.putM i xa y)) := by
  have hu : X.A.units + 1 < cLine := by have := gd.room.units; omega
  refine PS.imp (ps_dput hu (pe_var (i := i) (by rw [gd.hN]; exact hi) (gd.vis hv) hd hcd) (ha.1 false) (he.1 false) (by cases e <;> first | rfl | cases ne)) fun D σ H ⟨O, H0, A, ρ, out, ok, ev, q⟩ => ?_
  simp only [evS] at ev
  obtain ⟨r, e1, ev2⟩ := bind_some ev
  obtain ⟨sl, e2, ev3⟩ := bind_some ev2
  obtain ⟨⟨t, kvs⟩, e3, ev4⟩ := bind_some ev3
  obtain ⟨r1, e4, ev5⟩ := bind_some ev4
  have := dictOf_inv e3
  subst this
  split at ev5
  case isFalse => cases ev5
  rename_i hc
  cases ev5
  rw [Bool.and_eq_true] at hc
  obtain ⟨hk, hz⟩ := hc
  have hz := lenOk_le hz
  obtain ⟨a0, q1, q2, -⟩ := ok.dict e2
  refine ⟨O, H0, A, ρ, r, ok, e1, fun v H1 s1 h1 => ⟨.ref a0, q2, O, H0, A, ρ, r1, ok.same s1, e4, fun w H2 s2 h2 => ?_⟩⟩
  have ok2 := (ok.same s1).same s2
  obtain ⟨a1, w1, w2, w3⟩ := ok2.dict e2
  have : a1 = a0 := by rw [q1] at w1; exact (Option.some.inj w1).symm
  subst this
  have hv := (ok.down s1 h1.toR).same s2
  have hw := (ok.same s1).down s2 h2.toR
  have kp : ∀ (ob : HO) c o, H2 c = some o → ¬ Ow O A c → (L2.upd H2 a1 ob) c = some o := fun ob c o e n => by
    rw [upd_ne (fun z => n (.inr ⟨_, by rw [z]; exact q1⟩))]; exact e
  rcases w3 with ⟨rfl, ys, z1, z2⟩ | ⟨rfl, ys, z1, z2⟩
  · obtain ⟨ns, e5⟩ := keyOk_tup hk
    rw [e5] at hw
    cases hw with
    | @tup b xs _ g1 g2 =>
      have e6 := rpA_int_inv g2
      subst e6
      have hb : H2 b = some (.tup ((ns.map Sum.inl : List Key).map kV)) := by
        rcases g1 with ⟨g1, -⟩ | g1
        · rw [kV_ints]; exact g1
        · exact absurd g1 (gd.key hdk b ns)
      have hlen := Paired.length z2
      refine ⟨a1, _, rfl, .t z1 hb (by omega), ?_⟩
      have zp : KvT X.K H2 (Ow O A) (putK ys (ns.map Sum.inl) v) (putKv kvs r1.2 r.2) :=
        paired_put (E := fun a d => ∃ ns : List Int, a = ns.map Sum.inl ∧ d = .tuple (ns.map .int)) (fun p q z => z.1) _ _ (fun a d ⟨ms, z1, z2⟩ => by rw [z1, z2, e5, keyI_tup, keyI_tup]; exact inl_inj) (fun a d z => ⟨z, hv⟩) ⟨ns, rfl, e5⟩ z2
      have ok3 := ok2.updAt (i := i) (m := i) (ob := .dT (putK ys (ns.map Sum.inl) v)) (d := .dict ((.none, .bool true) :: putKv kvs r1.2 r.2)) (.inl rfl) q1 q1 q2 (.inr (.inl ⟨_, rfl⟩)) ⟨_, upd_same, zp.keep (kp _) (fun _ z => .inl z)⟩
      exact q A σ _ ok3 ((Stp.same (s1.trans s2)).trans (Stp.upd q1))
  · obtain ⟨m, e5⟩ := keyOk_int hk
    rw [e5] at hw
    cases hw
    have hlen := Paired.length z2
    refine ⟨a1, _, rfl, DPut.k (k := Sum.inl m) z1 (by omega), ?_⟩
    have zp : KvK X.K H2 (Ow O A) (putK ys (Sum.inl m) v) (putKv kvs r1.2 r.2) :=
      paired_put (E := fun a d => ∃ n : Int, a = Sum.inl n ∧ d = .int n) (fun p q z => z.1) _ _ (fun a d ⟨n, z1, z2⟩ => by
        rw [z1, z2, e5]
        show _ ↔ [n] = [m]
        exact ⟨fun h => by rw [Sum.inl.inj h], fun h => by injection h with h; rw [h]⟩) (fun a d z => ⟨z, hv⟩) ⟨m, rfl, e5⟩ z2
    have ok3 := ok2.updAt (i := i) (m := i) (ob := .dK (putK ys (Sum.inl m) v)) (d := .dict ((.none, .bool false) :: putKv kvs r1.2 r.2)) (.inl rfl) q1 q1 q2 (.inr (.inr ⟨_, rfl⟩)) ⟨_, upd_same, zp.keep (kp _) (fun _ z => .inl z)⟩
    exact q A σ _ ok3 ((Stp.same (s1.trans s2)).trans (Stp.upd q1))
mutual
theorem soundS (gd : Good c k sc X) : ∀ {st : Stmt} {s : S}, CS c sc st s → PS X st (tS X.K n s)
  | _, _, .asg hg he h1 h2 => s_asg gd hg (soundE he gd) h1 h2
  | _, _, .asgLc h1 h2 h3 h4 => s_anyLc gd h1 h2 h3 h4 fin_asg
  | _, _, .asgs h1 h2 h3 h4 => s_asgs gd h1 h2 (soundE h3 gd) h4
  | _, _, .asgsLc h1 h2 h3 h4 => s_anyLc gd h1 h2 h3 h4 fin_asgs
  | _, _, .par h1 h2 h3 h4 h5 h6 ha hb na nb hs => s_par gd h1 h2 h3 h4 h5 h6 (soundE ha gd) (soundE hb gd) na nb hs
  | _, _, .par3 h1 h2 h3 h4 h5 h6 h7 h8 h9 h10 h11 ha hb hd na nb nd hs => s_par3 gd h1 h2 h3 h4 h5 h6 h7 h8 h9 h10 h11 (soundE ha gd) (soundE hb gd) (soundE hd gd) na nb nd hs
  | _, _, .app h1 h2 h3 h4 he ne hl => s_app gd h1 h2 h3 h4 (soundE he gd) ne hl
  | _, _, .ext h1 h2 h3 h4 he ne hl => s_ext gd h1 h2 h3 h4 (soundE he gd) ne hl
  | _, _, .ins h1 h2 h3 h4 ha he na ne hl => s_ins gd h1 h2 h3 h4 (soundE ha gd) (soundE he gd) na ne hl
  | _, _, .put h1 h2 h3 h4 ha he na ne => s_put gd h1 h2 h3 h4 (soundE ha gd) (soundE he gd) na ne
  | _, _, .pop hg h1 h2 h3 h4 hl => s_pop gd hg h1 h2 h3 h4 hl
  | _, _, .ret he => s_ret gd he (soundE he gd)
  | _, _, .retN => s_retN
  | _, _, .ite ht ha hb => s_if (soundE ht gd) (soundSs gd ha) (soundSs gd hb)
  | _, _, .for_ hg hi hs hb => s_for gd hg (fun b => soundI hi gd b) hs (soundSs gd hb)
  | _, _, .while_ ht hb => s_while gd (soundE ht gd) (soundSs gd hb)
  | _, _, .newD h1 h2 h3 h4 h5 h6 h7 h8 h9 => s_newD gd h1 h2 h3 h4 h5 h6 h7 h8 h9
  | _, _, .put2 h1 h2 h3 h4 ha hb he na nb ne => s_put2 gd h1 h2 h3 h4 (soundE ha gd) (soundE hb gd) (soundE he gd) na nb ne
  | _, _, .app2 h1 h2 h3 h4 ha he na ne hl => s_app2 gd h1 h2 h3 h4 (soundE ha gd) (soundE he gd) na ne hl
  | _, _, .newM h0 h1 h2 => s_newM gd h1 h2
  | _, _, .putM h0 h1 h2 h3 h4 ha he na ne => s_putM gd h0 h1 h2 h3 h4 (soundE ha gd) (soundE he gd) na ne
  | _, _, .never => PS.imp ps_never fun D σ H ⟨O, H0, A, ρ, out, ok, ev, q⟩ => by
      simp only [evS] at ev
      cases ev
theorem soundSs (gd : Good c k sc X) : ∀ {sts : List Stmt} {ss : Ss}, CSs c sc sts ss → PSs X sts (tSs X.K n ss)
  | _, _, .nil => ss_nil
  | _, _, .cons h t => ss_cons (soundS gd h) (soundSs gd t)
  | _, _, .share t => ss_share (soundSs gd t)
end
end
end PV

set_option Elab.async false
set_option linter.all false
set_option maxRecDepth 100000
set_option maxHeartbeats 4000000
/-! PV12: turning the text into E and S. -/
namespace PV
open PySem PySem.Spec PyProof.Rows L2

def idxOf (x : Str) : List Str → Option Nat
  | [] => none
  | y :: ys => if x == y then some 0 else (idxOf x ys).map (· + 1)
theorem idxOf_ok {x : Str} : ∀ {N : List Str} {i : Nat}, idxOf x N = some i → N[i]? = some x
  | [], i, h => by cases h
  | y :: ys, i, h => by
    unfold idxOf at h
    split at h
    · rename_i e
      cases h
      rw [beq_iff_eq.mp e]; rfl
    · obtain ⟨j, e3, e2⟩ := map_some h
      subst e2
      exact idxOf_ok (N := ys) e3
def visB (sc : Sc) (x : Str) : Bool := match sc.lookup x with
  | some .local => true
  | some .cell => true
  | some .free => true
  | _ => false
def locB (sc : Sc) (x : Str) : Bool := match sc.lookup x with
  | some .local => true
  | some .cell => true
  | _ => false
def localB (sc : Sc) (x : Str) : Bool := match sc.lookup x with
  | some .local => true
  | _ => false
def gliB (sc : Sc) (x : Str) : Bool := match sc.lookup x with
  | some .globalImplicit => true
  | _ => false
theorem visB_ok {sc : Sc} {x : Str} (h : visB sc x = true) : vis sc x := by
  unfold visB at h
  split at h
  · exact .inl (by assumption)
  · exact .inr (.inl (by assumption))
  · exact .inr (.inr (by assumption))
  · cases h
theorem locB_ok {sc : Sc} {x : Str} (h : locB sc x = true) : loc sc x := by
  unfold locB at h
  split at h
  · exact .inl (by assumption)
  · exact .inr (by assumption)
  · cases h
theorem localB_ok {sc : Sc} {x : Str} (h : localB sc x = true) : sc.lookup x = some .local := by
  unfold localB at h
  split at h
  · assumption
  · cases h
theorem gliB_ok {sc : Sc} {x : Str} (h : gliB sc x = true) : gli sc x := by
  unfold gliB at h
  split at h
  · assumption
  · cases h
def okName (x : Str) : Bool := !(x == ("__debug__" : Str)) && !(x == ("__classdict__" : Str))
theorem okName_ok {x : Str} (h : okName x = true) : (x == ("__debug__" : Str)) = false ∧ (x == ("__classdict__" : Str)) = false := by
  unfold okName at h
  rw [Bool.and_eq_true, Bool.not_eq_true', Bool.not_eq_true'] at h
  exact h
def opInv : Operator → Option BOp
  | .Add => some .add | .Sub => some .sub | .Mult => some .mul | .FloorDiv => some .fdiv | .Mod => some .mod | .Pow => some .pow | .LShift => some .shl | .RShift => some .shr | .BitAnd => some .band | .BitOr => some .bor
  | _ => none
theorem opInv_ok {op : Operator} {o : BOp} (h : opInv op = some o) : op = opOf o := by
  cases op <;> cases h <;> rfl
def copInv : CmpOp → Option COp
  | .Eq => some .eq | .NotEq => some .ne | .Lt => some .lt | .LtE => some .le | .Gt => some .gt | .GtE => some .ge | .Is => some .isn | .IsNot => some .notn | .In => some .inn | .NotIn => some .notin
theorem copInv_ok {op : CmpOp} {o : COp} (h : copInv op = some o) : op = copOf o := by
  cases op <;> cases h <;> rfl
def allBI : List BI := [.len, .abs, .int, .min, .max, .sum, .sorted, .list, .tuple, .repr]
def biOf (f : Str) : List BI → Option BI
  | [] => none
  | b :: bs => match biName b with
    | some g => if f == g then some b else biOf f bs
    | none => biOf f bs
theorem biOf_ok {f : Str} {b : BI} : ∀ {l : List BI}, biOf f l = some b → biName b = some f
  | [], h => by cases h
  | a :: l, h => by
    unfold biOf at h
    split at h
    · rename_i g e
      split at h
      · rename_i e2
        cases h
        rw [e, beq_iff_eq.mp e2]
      · exact biOf_ok h
    · exact biOf_ok h
def allIs : List BI := [.isInt, .isBool, .isList, .isTuple, .isStr]
def isOf (f : Str) : List BI → Option BI
  | [] => none
  | b :: bs => match isName b with
    | some g => if f == g then some b else isOf f bs
    | none => isOf f bs
theorem isOf_ok {f : Str} {b : BI} : ∀ {l : List BI}, isOf f l = some b → isName b = some f
  | [], h => by cases h
  | a :: l, h => by
    unfold isOf at h
    split at h
    · rename_i g e
      split at h
      · rename_i e2
        cases h
        rw [e, beq_iff_eq.mp e2]
      · exact isOf_ok h
    · exact isOf_ok h
/-- a condition, then the rest -/
def chk {α : Type} (b : Bool) (x : Option α) : Option α := match b with
  | true => x
  | false => none
theorem chk_some {α : Type} {b : Bool} {x : Option α} {r : α} (h : chk b x = some r) : b = true ∧ x = some r := by
  cases b with
  | true => exact ⟨rfl, h⟩
  | false => cases h
def compG (c : Cfg) (sc : Sc) : Nat → Expr → Option G
  | 0, _ => none
  | n + 1, e => match e with
    | .Name x _ => chk (locB sc x) ((idxOf x c.N).map .nm)
    | .Tuple [a, b] _ _ => (compG c sc n a).bind fun x => (compG c sc n b).map fun y => .two x y
    | .Tuple [a, b, d] _ _ => (compG c sc n a).bind fun x => (compG c sc n b).bind fun y => (compG c sc n d).map fun z => .thr x y z
    | .Tuple [a, b, d, e] _ _ => (compG c sc n a).bind fun x => (compG c sc n b).bind fun y => (compG c sc n d).bind fun z => (compG c sc n e).map fun u => .fou x y z u
    | _ => none
theorem compG_ok {c : Cfg} {sc : Sc} : ∀ {n : Nat} {e : Expr} {g : G}, compG c sc n e = some g → CG c sc e g
  | 0, e, g, h => by cases h
  | n + 1, e, g, h => by
    unfold compG at h
    split at h
    · obtain ⟨h1, h2⟩ := chk_some h
      obtain ⟨i, h3, h4⟩ := map_some h2
      subst h4
      exact .nm (idxOf_ok h3) (locB_ok h1)
    · obtain ⟨x, h1, h2⟩ := bind_some h
      obtain ⟨y, h3, h4⟩ := map_some h2
      subst h4
      exact .two (compG_ok h1) (compG_ok h3)
    · obtain ⟨x, h1, h2⟩ := bind_some h
      obtain ⟨y, h3, h4⟩ := bind_some h2
      obtain ⟨z, h5, h6⟩ := map_some h4
      subst h6
      exact .thr (compG_ok h1) (compG_ok h3) (compG_ok h5)
    · obtain ⟨x, h1, h2⟩ := bind_some h
      obtain ⟨y, h3, h4⟩ := bind_some h2
      obtain ⟨z, h5, h6⟩ := bind_some h4
      obtain ⟨u, h7, h8⟩ := map_some h6
      subst h8
      exact .fou (compG_ok h1) (compG_ok h3) (compG_ok h5) (compG_ok h7)
    · cases h
def ownOf (N : List Str) (names : List (Str × NameKind)) : List (Str × Nat) := names.filterMap fun (x, k) => match k with
  | .local => (idxOf x N).map fun i => (x, i)
  | .cell => (idxOf x N).map fun i => (x, i)
  | _ => none
def callOf (c : Cfg) (sc : Sc) (f : Str) (e : Expr) (es : List Expr) (xs : Option Es) (x1 : Option E) : Option E :=
  match c.tab f with
  | some F => xs.map fun xs => .call F xs
  | none => match biOf f allBI with
    | some b => xs.map fun xs => .bi b xs
    | none => chk (f == ("isinstance" : Str)) (match es with
      | [.Name T _] => chk (gliB sc T && noStar e) ((isOf T allIs).bind fun b => x1.map fun x => .bi b (.cons x .nil))
      | _ => none)
/-- sorted(set(e)) -/
def setArg (f : Str) (e : Expr) (es : List Expr) : Option Expr := match e, es with
  | .Call (.Name g _) [e2] [] _, [] => chk (f == ("sorted" : Str) && g == ("set" : Str)) (some e2)
  | _, _ => none
theorem setArg_ok {f : Str} {e e2 : Expr} {es : List Expr} (h : setArg f e es = some e2) : f = "sorted" ∧ es = [] ∧ ∃ p q, e = .Call (.Name "set" p) [e2] [] q := by
  unfold setArg at h
  split at h
  · obtain ⟨h1, h⟩ := chk_some h
    cases h
    rw [Bool.and_eq_true] at h1
    rw [beq_iff_eq.mp h1.1, beq_iff_eq.mp h1.2]
    exact ⟨rfl, rfl, _, _, rfl⟩
  · cases h
/-- list(range(..)) -/
def rngArg (f : Str) (e : Expr) (es : List Expr) : Option (List Expr) := match e, es with
  | .Call (.Name g _) as [] _, [] => chk (f == ("list" : Str) && g == ("range" : Str)) (some as)
  | _, _ => none
theorem rngArg_ok {f : Str} {e : Expr} {es as : List Expr} (h : rngArg f e es = some as) : f = "list" ∧ es = [] ∧ ∃ p q, e = .Call (.Name "range" p) as [] q := by
  unfold rngArg at h
  split at h
  · obtain ⟨h1, h⟩ := chk_some h
    cases h
    rw [Bool.and_eq_true] at h1
    rw [beq_iff_eq.mp h1.1, beq_iff_eq.mp h1.2]
    exact ⟨rfl, rfl, _, _, rfl⟩
  · cases h
def nameSlot (c : Cfg) (sc : Sc) (x : Str) : Option Nat := chk (visB sc x && okName x) (idxOf x c.N)
theorem nameSlot_ok {c : Cfg} {sc : Sc} {x : Str} {i : Nat} (h : nameSlot c sc x = some i) : c.N[i]? = some x ∧ vis sc x ∧ (x == ("__debug__" : Str)) = false ∧ (x == ("__classdict__" : Str)) = false := by
  obtain ⟨h1, h2⟩ := chk_some h
  rw [Bool.and_eq_true] at h1
  exact ⟨idxOf_ok h2, visB_ok h1.1, (okName_ok h1.2).1, (okName_ok h1.2).2⟩
/-- a name whose slot stands in a list -/
def nameIn (c : Cfg) (sc : Sc) (l : List Nat) : Expr → Option Nat
  | .Name x _ => (nameSlot c sc x).bind fun i => chk (l.contains i) (some i)
  | _ => none
theorem nameIn_ok {c : Cfg} {sc : Sc} {l : List Nat} {e : Expr} {i : Nat} (h : nameIn c sc l e = some i) : ∃ x p, e = .Name x p ∧ c.N[i]? = some x ∧ vis sc x ∧ (x == ("__debug__" : Str)) = false ∧ (x == ("__classdict__" : Str)) = false := by
  unfold nameIn at h
  split at h
  · obtain ⟨j, h1, h⟩ := bind_some h
    obtain ⟨-, h⟩ := chk_some h
    cases h
    exact ⟨_, _, rfl, nameSlot_ok h1⟩
  · cases h
/-- rows[a], rows a list of own lists -/
def deepIn (c : Cfg) (sc : Sc) : Expr → Option (Nat × Expr)
  | .Subscript o a _ => chk (noSlice a) ((nameIn c sc c.ds o).map fun i => (i, a))
  | _ => none
theorem deepIn_ok {c : Cfg} {sc : Sc} {e a : Expr} {i : Nat} (h : deepIn c sc e = some (i, a)) : ∃ x p q, e = .Subscript (.Name x p) a q ∧ noSlice a = true ∧ c.N[i]? = some x ∧ vis sc x ∧ (x == ("__debug__" : Str)) = false ∧ (x == ("__classdict__" : Str)) = false := by
  unfold deepIn at h
  split at h
  · obtain ⟨h1, h⟩ := chk_some h
    obtain ⟨j, h2, h3⟩ := map_some h
    cases h3
    obtain ⟨x, p, rfl, n1, n2, n3, n4⟩ := nameIn_ok h2
    exact ⟨x, p, _, rfl, h1, n1, n2, n3, n4⟩
  · cases h
/-- in, not in a dict -/
def dictOp (c : Cfg) (sc : Sc) (op : CmpOp) (b : Expr) : Option (Bool × Nat) := chk c.dk ((nameIn c sc c.ms b).bind fun i => match op with
  | .In => some (false, i)
  | .NotIn => some (true, i)
  | _ => none)
mutual
def compE (c : Cfg) : Nat → Sc → Expr → Option E
  | 0, _, _ => none
  | n + 1, sc, e => match e with
    | .Name x _ => chk (okName x) (match visB sc x with
      | true => (idxOf x c.N).map .v
      | false => chk (gliB sc x) ((c.cst x).map .c))
    | .Constant (.int i) _ _ => some (.c (.int i))
    | .Constant (.bool b) _ _ => some (.c (.bool b))
    | .Constant .none _ _ => some (.c .none)
    | .Constant (.str x) _ _ => some (.c (.str x))
    | .BinOp a op b _ => (opInv op).bind fun o => (compE c n sc a).bind fun x => (compE c n sc b).map fun y => .bin o x y
    | .UnaryOp .USub a _ => (compE c n sc a).map fun x => .neg x
    | .UnaryOp .Not a _ => (compE c n sc a).map fun x => .not x
    | .Compare a [op] [b] _ => match dictOp c sc op b with
      | some (true, i) => (compE c n sc a).map fun x => .mnot i x
      | some (false, i) => (compE c n sc a).map fun x => .min i x
      | none => (copInv op).bind fun o => chk (!behindInMarks op b) ((compE c n sc a).bind fun x => (compE c n sc b).map fun y => .cmp o x y)
    | .Compare a [op, op2] [b, d] _ => (copInv op).bind fun o => (copInv op2).bind fun p => chk (!behindInMarks op2 d) ((compE c n sc a).bind fun x => (compE c n sc b).bind fun y => (compE c n sc d).map fun z => .chain o p x y z)
    | .BoolOp .And (a :: b :: es) _ => compA c n sc (a :: b :: es)
    | .BoolOp .Or (a :: b :: es) _ => compO c n sc (a :: b :: es)
    | .IfExp t a b _ => (compE c n sc t).bind fun z => (compE c n sc a).bind fun x => (compE c n sc b).map fun y => .ite z x y
    | .Tuple es _ _ => (compEs c n sc es).map fun xs => .tup xs
    | .List es _ => (compEs c n sc es).map fun xs => .lst xs
    | .Subscript a (.Slice none none (some (.UnaryOp .USub (.Constant (.int i) _ _) _)) _) _ => chk (decide (i = 1)) ((compE c n sc a).map fun x => .rev x)
    | .Subscript a (.Slice lo hi none _) _ => (compE c n sc a).bind fun x => (compP c n sc lo).bind fun l => (compP c n sc hi).map fun h => .sl x l h
    | .Subscript a b _ => chk (noSlice b) (match deepIn c sc a with
      | some (i, a1) => (compE c n sc a1).bind fun x => (compE c n sc b).map fun y => .ix2 i x y
      | none => match nameIn c sc c.ms a with
        | some i => chk c.dk ((compE c n sc b).map fun y => .mget i y)
        | none => (compE c n sc a).bind fun x => (compE c n sc b).map fun y => .ix x y)
    | .Call (.Subscript (.Name x _) a _) (e :: es) [] _ => chk (gliB sc x && okName x && noSlice a) ((c.cut x).bind fun fs => (compE c n sc a).bind fun xa => (compEs c n sc (e :: es)).map fun xs => .callT fs xa xs)
    | .Call (.Name f _) [] [] _ => chk (gliB sc f && okName f) ((c.tab f).map fun F => .call F .nil)
    | .Call (.Name f _) (e :: es) [] _ => chk (gliB sc f && okName f) (match setArg f e es with
      | some e2 => chk (gliB sc "set" && noStar e2) ((compE c n sc e2).map fun x => .bi .sortedSet (.cons x .nil))
      | none => match rngArg f e es with
        | some [a] => chk (gliB sc "range" && noStar a) ((compE c n sc a).map fun x => .rngl (.cons x .nil))
        | some [a, b] => chk (gliB sc "range" && noStar a && noStar b) ((compE c n sc a).bind fun x => (compE c n sc b).map fun y => .rngl (.cons x (.cons y .nil)))
        | _ => callOf c sc f e es (compEs c n sc (e :: es)) (compE c n sc e))
    | .Call (.Attribute o f apos) [e] [] cpos => chk ((apos.endLine == cpos.line) && notCall o && noStar o && noStar e) ((compE c n sc o).bind fun x => (compE c n sc e).bind fun y => match f == ("index" : Str) with
      | true => some (.bi .index (.cons x (.cons y .nil)))
      | false => chk (f == ("count" : Str)) (some (.bi .count (.cons x (.cons y .nil)))))
    | .ListComp elt [⟨tg, iter, ifs, as⟩] scope _ => chk (decide (as = 0) && noSet iter) ((compI c n sc iter).bind fun it => (compG c scope.names n tg).bind fun g => (compC c n scope.names ifs).bind fun t => (compE c n scope.names elt).bind fun x =>
        chk (blkC c.N ⟨.function, sc, false, false, []⟩ scope (ownOf c.N scope.names) && (gslots g).all (fun i => ((ownOf c.N scope.names).map (·.2)).contains i)) (some (.comp ((ownOf c.N scope.names).map (·.2)) g it t x)))
    | .ListComp elt [⟨tg, iter, ifs, as⟩, ⟨tg1, iter1, ifs1, as1⟩] scope _ => chk (decide (as = 0) && decide (as1 = 0) && noSet iter && noSet iter1) ((compI c n sc iter).bind fun it => (compG c scope.names n tg).bind fun g => (compC c n scope.names ifs).bind fun t =>
        (compI c n scope.names iter1).bind fun it1 => (compG c scope.names n tg1).bind fun g1 => (compC c n scope.names ifs1).bind fun t1 => (compE c n scope.names elt).bind fun x =>
        chk (blkC c.N ⟨.function, sc, false, false, []⟩ scope (ownOf c.N scope.names) && (gslots g).all (fun i => ((ownOf c.N scope.names).map (·.2)).contains i) && (gslots g1).all (fun i => (gslots g1).contains i) && (gslots g1).all (fun i => ((ownOf c.N scope.names).map (·.2)).contains i))
          (some (.comp2 ((ownOf c.N scope.names).map (·.2)) g it t (gslots g1) g1 it1 t1 x)))
    | _ => none
def compA (c : Cfg) : Nat → Sc → List Expr → Option E
  | 0, _, _ => none
  | n + 1, sc, es => match es with
    | [a] => compE c n sc a
    | a :: b :: r => (compE c n sc a).bind fun x => (compA c n sc (b :: r)).map fun y => .and x y
    | [] => none
def compO (c : Cfg) : Nat → Sc → List Expr → Option E
  | 0, _, _ => none
  | n + 1, sc, es => match es with
    | [a] => compE c n sc a
    | a :: b :: r => (compE c n sc a).bind fun x => (compO c n sc (b :: r)).map fun y => .or x y
    | [] => none
def compEs (c : Cfg) : Nat → Sc → List Expr → Option Es
  | 0, _, _ => none
  | n + 1, sc, es => match es with
    | [] => some .nil
    | e :: r => chk (noStar e) ((compE c n sc e).bind fun x => (compEs c n sc r).map fun xs => .cons x xs)
def compP (c : Cfg) : Nat → Sc → Option Expr → Option Oe
  | 0, _, _ => none
  | n + 1, sc, e => match e with
    | none => some .no
    | some e => (compE c n sc e).map .yes
def compC (c : Cfg) : Nat → Sc → List Expr → Option Oe
  | 0, _, _ => none
  | n + 1, sc, e => match e with
    | [] => some .no
    | [e] => (compE c n sc e).map .yes
    | _ => none
def compI (c : Cfg) : Nat → Sc → Expr → Option I
  | 0, _, _ => none
  | n + 1, sc, e => match e with
    | .Call (.Name f _) (a :: es) [] _ => match f == ("range" : Str) && gliB sc f && Nat.ble es.length 2 with
      | true => (compEs c n sc (a :: es)).map .rng
      | false => (compE c n sc e).map .seq
    | _ => (compE c n sc e).map .seq
end
theorem not_true {b : Bool} (h : (!b) = true) : b = false := by simpa using h
theorem str_of_beq {f g : Str} (h : (f == g) = true) : f = g := beq_iff_eq.mp h
mutual
theorem compE_ok {c : Cfg} : ∀ {n : Nat} {sc : Sc} {e : Expr} {x : E}, compE c n sc e = some x → CE c sc e x
  | 0, _, _, _, h => by simp [compE] at h
  | n + 1, sc, e, x, h => by
    unfold compE at h
    split at h
    · obtain ⟨h1, h⟩ := chk_some h
      split at h
      · rename_i hv
        obtain ⟨i, h2, h3⟩ := map_some h
        subst h3
        exact .name (idxOf_ok h2) (visB_ok hv) (okName_ok h1).1 (okName_ok h1).2
      · obtain ⟨h2, h⟩ := chk_some h
        obtain ⟨d, h3, h4⟩ := map_some h
        subst h4
        exact .const (gliB_ok h2) h3 (okName_ok h1).1
    · cases h; exact .int
    · cases h; exact .bool
    · cases h; exact .none
    · cases h; exact .str
    · obtain ⟨o, h1, h⟩ := bind_some h
      obtain ⟨a, h2, h⟩ := bind_some h
      obtain ⟨b, h3, h⟩ := map_some h
      subst h
      rw [opInv_ok h1]
      exact .bin (compE_ok h2) (compE_ok h3)
    · obtain ⟨a, h2, h⟩ := map_some h
      subst h
      exact .neg (compE_ok h2)
    · obtain ⟨a, h2, h⟩ := map_some h
      subst h
      exact .not (compE_ok h2)
    · split at h
      · rename_i i hd
        obtain ⟨a, h2, h⟩ := map_some h
        subst h
        unfold dictOp at hd
        obtain ⟨hk, hd⟩ := chk_some hd
        obtain ⟨j, h3, hd⟩ := bind_some hd
        split at hd
        · cases hd
        · cases hd
          obtain ⟨x, p, rfl, n1, n2, n3, n4⟩ := nameIn_ok h3
          exact .mnot hk n1 n2 n3 n4 (compE_ok h2)
        · cases hd
      · rename_i i hd
        obtain ⟨a, h2, h⟩ := map_some h
        subst h
        unfold dictOp at hd
        obtain ⟨hk, hd⟩ := chk_some hd
        obtain ⟨j, h3, hd⟩ := bind_some hd
        split at hd
        · cases hd
          obtain ⟨x, p, rfl, n1, n2, n3, n4⟩ := nameIn_ok h3
          exact .min hk n1 n2 n3 n4 (compE_ok h2)
        · cases hd
        · cases hd
      · obtain ⟨o, h1, h⟩ := bind_some h
        obtain ⟨hm, h⟩ := chk_some h
        obtain ⟨a, h2, h⟩ := bind_some h
        obtain ⟨b, h3, h⟩ := map_some h
        subst h
        have hm := not_true hm
        have := copInv_ok h1
        subst this
        exact .cmp (compE_ok h2) (compE_ok h3) hm
    · obtain ⟨o, h1, h⟩ := bind_some h
      obtain ⟨p, h1', h⟩ := bind_some h
      obtain ⟨hm, h⟩ := chk_some h
      obtain ⟨a, h2, h⟩ := bind_some h
      obtain ⟨b, h3, h⟩ := bind_some h
      obtain ⟨d, h4, h⟩ := map_some h
      subst h
      have hm := not_true hm
      have := copInv_ok h1
      subst this
      have := copInv_ok h1'
      subst this
      exact .chain (compE_ok h2) (compE_ok h3) (compE_ok h4) hm
    · exact .and (compA_ok h)
    · exact .or (compO_ok h)
    · obtain ⟨a, h2, h⟩ := bind_some h
      obtain ⟨b, h3, h⟩ := bind_some h
      obtain ⟨d, h4, h⟩ := map_some h
      subst h
      exact .ite (compE_ok h2) (compE_ok h3) (compE_ok h4)
    · obtain ⟨a, h2, h⟩ := map_some h
      subst h
      exact .tup (compEs_ok h2)
    · obtain ⟨a, h2, h⟩ := map_some h
      subst h
      exact .lst (compEs_ok h2)
    · obtain ⟨hi, h⟩ := chk_some h
      have hi := of_decide_eq_true hi
      subst hi
      obtain ⟨a, h2, h⟩ := map_some h
      subst h
      exact .rev (compE_ok h2)
    · obtain ⟨a, h2, h⟩ := bind_some h
      obtain ⟨b, h3, h⟩ := bind_some h
      obtain ⟨d, h4, h⟩ := map_some h
      subst h
      exact .sl (compE_ok h2) (compP_ok h3) (compP_ok h4)
    · obtain ⟨hs, h⟩ := chk_some h
      split at h
      · rename_i i a1 hd
        obtain ⟨a, h2, h⟩ := bind_some h
        obtain ⟨b, h3, h⟩ := map_some h
        subst h
        obtain ⟨x, p, q, rfl, n0, n1, n2, n3, n4⟩ := deepIn_ok hd
        exact .ix2 n1 n2 n3 n4 (compE_ok h2) (compE_ok h3) n0 hs
      · split at h
        · rename_i i hd
          obtain ⟨hk, h⟩ := chk_some h
          obtain ⟨b, h3, h⟩ := map_some h
          subst h
          obtain ⟨x, p, rfl, n1, n2, n3, n4⟩ := nameIn_ok hd
          exact .mget hk n1 n2 n3 n4 (compE_ok h3) hs
        · obtain ⟨a, h2, h⟩ := bind_some h
          obtain ⟨b, h3, h⟩ := map_some h
          subst h
          exact .ix (compE_ok h2) (compE_ok h3) hs
    · obtain ⟨hg, h⟩ := chk_some h
      rw [Bool.and_eq_true, Bool.and_eq_true] at hg
      obtain ⟨fs, h1, h⟩ := bind_some h
      obtain ⟨xa, h2, h⟩ := bind_some h
      obtain ⟨xs, h3, h⟩ := map_some h
      subst h
      exact .callT (gliB_ok hg.1.1) h1 (okName_ok hg.1.2).1 (compE_ok h2) hg.2 (compEs_ok h3)
    · obtain ⟨hg, h⟩ := chk_some h
      rw [Bool.and_eq_true] at hg
      obtain ⟨F, h2, h⟩ := map_some h
      subst h
      exact .call0 (gliB_ok hg.1) h2 (okName_ok hg.2).1
    · obtain ⟨hg, h⟩ := chk_some h
      rw [Bool.and_eq_true] at hg
      obtain ⟨hg, hn⟩ := hg
      have hg := gliB_ok hg
      split at h
      · rename_i e2 hs
        obtain ⟨hc, h⟩ := chk_some h
        rw [Bool.and_eq_true] at hc
        obtain ⟨x2, h2, h⟩ := map_some h
        subst h
        obtain ⟨e3, e4, p3, q3, e5⟩ := setArg_ok hs
        subst e3 e4 e5
        exact .sset hg (gliB_ok hc.1) (compE_ok h2) hc.2
      split at h
      · rename_i a hs
        obtain ⟨hc, h⟩ := chk_some h
        rw [Bool.and_eq_true] at hc
        obtain ⟨x2, h2, h⟩ := map_some h
        subst h
        obtain ⟨e3, e4, p3, q3, e5⟩ := rngArg_ok hs
        subst e3 e4 e5
        exact .rngl1 hg (gliB_ok hc.1) (compE_ok h2) hc.2
      · rename_i a b hs
        obtain ⟨hc, h⟩ := chk_some h
        rw [Bool.and_eq_true, Bool.and_eq_true] at hc
        obtain ⟨x2, h2, h⟩ := bind_some h
        obtain ⟨x3, h3, h⟩ := map_some h
        subst h
        obtain ⟨e3, e4, p3, q3, e5⟩ := rngArg_ok hs
        subst e3 e4 e5
        exact .rngl2 hg (gliB_ok hc.1.1) (compE_ok h2) hc.1.2 (compE_ok h3) hc.2
      unfold callOf at h
      split at h
      · rename_i F hF
        obtain ⟨xs, h2, h⟩ := map_some h
        subst h
        exact .call hg hF (okName_ok hn).1 (compEs_ok h2)
      · split at h
        · rename_i b hb
          obtain ⟨xs, h2, h⟩ := map_some h
          subst h
          exact .bi hg (biOf_ok hb) (compEs_ok h2)
        · obtain ⟨hi, k1⟩ := chk_some h
          have hf := str_of_beq hi
          split at k1
          · obtain ⟨hc, k2⟩ := chk_some k1
            rw [Bool.and_eq_true] at hc
            obtain ⟨b, h2, k3⟩ := bind_some k2
            obtain ⟨x, h3, k4⟩ := map_some k3
            subst k4
            subst hf
            exact .is hg (gliB_ok hc.1) (isOf_ok h2) (compE_ok h3) hc.2
          · cases k1
    · obtain ⟨hc, h⟩ := chk_some h
      simp only [Bool.and_eq_true] at hc
      obtain ⟨⟨⟨c2, c3⟩, c4⟩, c5⟩ := hc
      obtain ⟨a, h2, k1⟩ := bind_some h
      obtain ⟨b, h3, k2⟩ := bind_some k1
      split at k2
      · rename_i c1
        cases k2
        have hf := str_of_beq c1
        subst hf
        exact .index (compE_ok h2) (compE_ok h3) c2 c3 c4 c5
      · obtain ⟨c1, k2⟩ := chk_some k2
        cases k2
        have hf := str_of_beq c1
        subst hf
        exact .count (compE_ok h2) (compE_ok h3) c2 c3 c4 c5
    · obtain ⟨hc, h⟩ := chk_some h
      rw [Bool.and_eq_true] at hc
      have e0 := of_decide_eq_true hc.1
      obtain ⟨it, h1, k1⟩ := bind_some h
      obtain ⟨g, h2, k2⟩ := bind_some k1
      obtain ⟨t, h3, k3⟩ := bind_some k2
      obtain ⟨y, h4, k4⟩ := bind_some k3
      obtain ⟨hb, k5⟩ := chk_some k4
      rw [Bool.and_eq_true] at hb
      cases k5
      subst e0
      exact .comp (compI_ok h1) (compG_ok h2) (compC_ok h3) (compE_ok h4) hb.1 hb.2 hc.2
    · obtain ⟨hc, h⟩ := chk_some h
      simp only [Bool.and_eq_true] at hc
      obtain ⟨⟨⟨c1, c2⟩, c3⟩, c4⟩ := hc
      have e0 := of_decide_eq_true c1
      have e1 := of_decide_eq_true c2
      obtain ⟨it, h1, k1⟩ := bind_some h
      obtain ⟨g, h2, k2⟩ := bind_some k1
      obtain ⟨t, h3, k3⟩ := bind_some k2
      obtain ⟨it1, h4, k4⟩ := bind_some k3
      obtain ⟨g1, h5, k5⟩ := bind_some k4
      obtain ⟨t1, h6, k6⟩ := bind_some k5
      obtain ⟨y, h7, k7⟩ := bind_some k6
      obtain ⟨hb, k8⟩ := chk_some k7
      simp only [Bool.and_eq_true] at hb
      obtain ⟨⟨⟨b1, b2⟩, b3⟩, b4⟩ := hb
      cases k8
      subst e0 e1
      exact .comp2 (compI_ok h1) (compG_ok h2) (compC_ok h3) (compI_ok h4) (compG_ok h5) (compC_ok h6) (compE_ok h7) b1 b2 b3 b4 c3 c4
    · cases h
theorem compA_ok {c : Cfg} : ∀ {n : Nat} {sc : Sc} {es : List Expr} {pos : Pos} {x : E}, compA c n sc es = some x → CA c sc es pos x
  | 0, _, _, _, _, h => by simp [compA] at h
  | n + 1, sc, es, pos, x, h => by
    unfold compA at h
    split at h
    · exact .one (compE_ok h)
    · obtain ⟨a, h2, h⟩ := bind_some h
      obtain ⟨b, h3, h⟩ := map_some h
      subst h
      exact .cons (compE_ok h2) (compA_ok h3)
    · cases h
theorem compO_ok {c : Cfg} : ∀ {n : Nat} {sc : Sc} {es : List Expr} {pos : Pos} {x : E}, compO c n sc es = some x → CO c sc es pos x
  | 0, _, _, _, _, h => by simp [compO] at h
  | n + 1, sc, es, pos, x, h => by
    unfold compO at h
    split at h
    · exact .one (compE_ok h)
    · obtain ⟨a, h2, h⟩ := bind_some h
      obtain ⟨b, h3, h⟩ := map_some h
      subst h
      exact .cons (compE_ok h2) (compO_ok h3)
    · cases h
theorem compEs_ok {c : Cfg} : ∀ {n : Nat} {sc : Sc} {es : List Expr} {x : Es}, compEs c n sc es = some x → CEs c sc es x
  | 0, _, _, _, h => by simp [compEs] at h
  | n + 1, sc, es, x, h => by
    unfold compEs at h
    split at h
    · cases h; exact .nil
    · obtain ⟨hs, h⟩ := chk_some h
      obtain ⟨a, h2, h⟩ := bind_some h
      obtain ⟨b, h3, h⟩ := map_some h
      subst h
      exact .cons (compE_ok h2) hs (compEs_ok h3)
theorem compP_ok {c : Cfg} : ∀ {n : Nat} {sc : Sc} {e : Option Expr} {x : Oe}, compP c n sc e = some x → CP c sc e x
  | 0, _, _, _, h => by simp [compP] at h
  | n + 1, sc, e, x, h => by
    unfold compP at h
    split at h
    · cases h; exact .no
    · obtain ⟨a, h2, h⟩ := map_some h
      subst h
      exact .yes (compE_ok h2)
theorem compC_ok {c : Cfg} : ∀ {n : Nat} {sc : Sc} {e : List Expr} {x : Oe}, compC c n sc e = some x → CC c sc e x
  | 0, _, _, _, h => by simp [compC] at h
  | n + 1, sc, e, x, h => by
    unfold compC at h
    split at h
    · cases h; exact .no
    · obtain ⟨a, h2, h⟩ := map_some h
      subst h
      exact .yes (compE_ok h2)
    · cases h
theorem compI_ok {c : Cfg} : ∀ {n : Nat} {sc : Sc} {e : Expr} {x : I}, compI c n sc e = some x → CI c sc e x
  | 0, _, _, _, h => by simp [compI] at h
  | n + 1, sc, e, x, h => by
    unfold compI at h
    split at h
    · split at h
      · rename_i hc
        simp only [Bool.and_eq_true] at hc
        obtain ⟨⟨c1, c2⟩, c3⟩ := hc
        have hf := str_of_beq c1
        obtain ⟨a, h2, k1⟩ := map_some h
        subst k1
        subst hf
        exact .rng (gliB_ok c2) (compEs_ok h2) (Nat.le_of_ble_eq_true c3)
      · obtain ⟨a, h2, h⟩ := map_some h
        subst h
        exact .seq (compE_ok h2)
    · obtain ⟨a, h2, h⟩ := map_some h
      subst h
      exact .seq (compE_ok h2)
end
end PV

set_option Elab.async false
set_option linter.all false
set_option maxRecDepth 100000
set_option maxHeartbeats 4000000
/-! PV13: whole defs; tables of defs; the law's end. -/
namespace PV
open PySem PySem.Spec PyProof.Rows L2

/-! ### names whose lists change -/
def recv : Expr → List Str
  | .Call (.Attribute (.Name x _) f _) _ _ _ => if f == ("append" : Str) || f == ("extend" : Str) || f == ("insert" : Str) || f == ("pop" : Str) then [x] else []
  | _ => []
mutual
def mutS : Nat → Stmt → List Str
  | 0, _ => []
  | n + 1, st => match st with
    | .Expr e _ => recv e
    | .Assign [.Subscript (.Name x _) _ _] e _ => x :: recv e
    | .Assign _ e _ => recv e
    | .If _ a b _ => mutSs n a ++ mutSs n b
    | .For _ _ a _ _ => mutSs n a
    | .While _ a _ _ => mutSs n a
    | _ => []
def mutSs : Nat → List Stmt → List Str
  | 0, _ => []
  | n + 1, l => match l with
    | [] => []
    | st :: r => mutS n st ++ mutSs n r
end
mutual
/-- names of dicts -/
def dictS : Nat → Stmt → List Str
  | 0, _ => []
  | n + 1, st => match st with
    | .Assign [.Name x _] (.Dict [] [] _) _ => [x]
    | .If _ a b _ => dictSs n a ++ dictSs n b
    | .For _ _ a _ _ => dictSs n a
    | .While _ a _ _ => dictSs n a
    | _ => []
def dictSs : Nat → List Stmt → List Str
  | 0, _ => []
  | n + 1, l => match l with
    | [] => []
    | st :: r => dictS n st ++ dictSs n r
end
mutual
/-- names of lists of own lists -/
def deepS : Nat → Stmt → List Str
  | 0, _ => []
  | n + 1, st => match st with
    | .Assign [.Subscript (.Subscript (.Name x _) _ _) _ _] _ _ => [x]
    | .Expr (.Call (.Attribute (.Subscript (.Name x _) _ _) _ _) _ _ _) _ => [x]
    | .If _ a b _ => deepSs n a ++ deepSs n b
    | .For _ _ a _ _ => deepSs n a
    | .While _ a _ _ => deepSs n a
    | _ => []
def deepSs : Nat → List Stmt → List Str
  | 0, _ => []
  | n + 1, l => match l with
    | [] => []
    | st :: r => deepS n st ++ deepSs n r
end
def mutSlots (N : List Str) (l : List Str) : List Nat := l.filterMap fun x => idxOf x N
/-! ### slots whose values go elsewhere -/
mutual
def shE : E → List Nat
  | .v i => [i]
  | .c _ => [] | .bin _ _ _ => [] | .neg _ => [] | .cmp _ _ _ => [] | .chain _ _ _ _ _ => [] | .not _ => [] | .ix _ _ => [] | .sl _ _ _ => [] | .rev _ => [] | .rngl _ => [] | .call _ _ => [] | .bi _ _ => []
  | .ix2 _ _ _ => [] | .mget _ _ => [] | .min _ _ => [] | .mnot _ _ => [] | .callT _ _ _ => []
  | .and _ y => shE y
  | .or _ y => shE y
  | .ite _ x y => shE x ++ shE y
  | .tup es => shEs es
  | .lst es => shEs es
  | .comp own _ _ _ x => (shE x).filter fun i => !own.contains i
  | .comp2 own _ _ _ _ _ _ _ x => (shE x).filter fun i => !own.contains i
def shEs : Es → List Nat
  | .nil => []
  | .cons e es => shE e ++ shEs es
end
def fresh : E → Bool
  | .lst _ => true | .sl _ _ _ => true | .rev _ => true | .rngl _ => true | .call _ _ => true | .callT _ _ _ => true | .comp _ _ _ _ _ => true | .comp2 _ _ _ _ _ _ _ _ _ => true
  | .bi .list _ => true | .bi .sorted _ => true
  | _ => false
def shI : I → List Nat
  | .seq e => shE e
  | .rng _ => []
/-- ahead of a statement -/
def before : S → List Nat
  | .asg _ e => shE e
  | .asgs _ e => shE e
  | .par _ _ a b => shE a ++ shE b
  | .par3 _ _ _ a b d => shE a ++ shE b ++ shE d
  | .app _ e => shE e
  | .ext _ e => shE e
  | .ins _ _ e => shE e
  | .put _ _ e => shE e
  | .put2 _ _ _ e => shE e
  | .app2 _ _ e => shE e
  | .putM _ a e => shE a ++ shE e
  | .newD _ own _ _ e => (shE e).filter fun i => !own.contains i
  | .ret (.v _) => []
  | .ret e => shE e
  | .for_ _ it _ => shI it
  | _ => []
def after (M : List Nat) : S → List Nat
  | .par i j a b => (if fresh a && !M.contains i then [i] else []) ++ (if fresh b && !M.contains j then [j] else [])
  | .par3 i j l a b d => (if fresh a && !M.contains i then [i] else []) ++ (if fresh b && !M.contains j then [j] else []) ++ (if fresh d && !M.contains l then [l] else [])
  | _ => []
def shares (l : List Nat) (ss : Ss) : Ss := l.foldr (fun i ss => .cons (.share i) ss) ss
theorem shares_ok {c : Cfg} {sc : Sc} {sts : List Stmt} {ss : Ss} (h : CSs c sc sts ss) : ∀ l : List Nat, CSs c sc sts (shares l ss)
  | [] => h
  | _ :: l => .share (shares_ok h l)
/-- pairs that are stored at once -/
def compPar (c : Cfg) (sc : Sc) (n : Nat) (x y : Str) (px py : Pos) (a b : Expr) : Option S :=
  chk (localB sc x && localB sc y && !(x == y) && (px.line == py.line) && noStar a && noStar b && swapPair a b) ((idxOf x c.N).bind fun i => (idxOf y c.N).bind fun j => (compE c n sc a).bind fun xa => (compE c n sc b).map fun xb => .par i j xa xb)
def compPar3 (c : Cfg) (sc : Sc) (n : Nat) (x y z : Str) (px py pz : Pos) (a b d : Expr) : Option S :=
  chk (localB sc x && localB sc y && localB sc z && !(x == y) && !(x == z) && !(y == z) && (px.line == py.line) && (px.line == pz.line) && noStar a && noStar b && noStar d && swapTri a b d)
    ((idxOf x c.N).bind fun i => (idxOf y c.N).bind fun j => (idxOf z c.N).bind fun l => (compE c n sc a).bind fun xa => (compE c n sc b).bind fun xb => (compE c n sc d).map fun xd => .par3 i j l xa xb xd)
def orElse {α : Type} (a b : Option α) : Option α := match a with
  | some x => some x
  | none => b
theorem orElse_some {α : Type} {a b : Option α} {r : α} (h : orElse a b = some r) : a = some r ∨ b = some r := by
  cases a with
  | none => exact .inr h
  | some x => exact .inl h
/-- name = e -/
def compSet (c : Cfg) (sc : Sc) (M : List Nat) (n : Nat) (x : Str) (p : Pos) (e : Expr) : Option S :=
  (idxOf x c.N).bind fun i => (compE c n sc e).bind fun y => match M.contains i, yesSwap sc (.Name x p) e with
    | true, true => chk (localB sc x) (some (.asg (.nm i) y))
    | false, true => chk (localB sc x) (some (.asgs i y))
    | true, false => chk (locB sc x && noSwap sc (.Name x p) e) (some (.asg (.nm i) y))
    | false, false => chk (locB sc x && noSwap sc (.Name x p) e) (some (.asgs i y))
/-- rows = [.. for ..], rows a list of own lists -/
def compDeep (c : Cfg) (sc : Sc) (n : Nat) (x : Str) (p : Pos) (e : Expr) : Option S := match e with
  | .ListComp elt [⟨tg, iter, [], as⟩] scope cpos => chk (decide (as = 0) && noSet iter && localB sc x && yesSwap sc (.Name x p) (.ListComp elt [⟨tg, iter, [], as⟩] scope cpos)) ((idxOf x c.N).bind fun i => chk (c.ds.contains i) ((compI c n sc iter).bind fun it => (compG c scope.names n tg).bind fun g => (compE c n scope.names elt).bind fun y =>
        chk (blkC c.N ⟨.function, sc, false, false, []⟩ scope (ownOf c.N scope.names) && (gslots g).all (fun i => ((ownOf c.N scope.names).map (·.2)).contains i)) (some (.newD i ((ownOf c.N scope.names).map (·.2)) g it y))))
  | .Dict [] [] _ => chk (c.dk && locB sc x) ((idxOf x c.N).map fun i => .newM i true)
  | _ => none
theorem compDeep_ok {c : Cfg} {sc : Sc} {n : Nat} {x : Str} {p pos : Pos} {e : Expr} {s : S} (h : compDeep c sc n x p e = some s) : CS c sc (.Assign [.Name x p] e pos) s := by
  unfold compDeep at h
  split at h
  · obtain ⟨h1, h⟩ := chk_some h
    simp only [Bool.and_eq_true] at h1
    obtain ⟨⟨⟨c1, c2⟩, c3⟩, c4⟩ := h1
    have e0 := of_decide_eq_true c1
    obtain ⟨i, h2, k1⟩ := bind_some h
    obtain ⟨-, k2⟩ := chk_some k1
    obtain ⟨it, h3, k3⟩ := bind_some k2
    obtain ⟨g, h4, k4⟩ := bind_some k3
    obtain ⟨y, h5, k5⟩ := bind_some k4
    obtain ⟨hb, k6⟩ := chk_some k5
    rw [Bool.and_eq_true] at hb
    cases k6
    subst e0
    exact .newD (idxOf_ok h2) (localB_ok c3) (compI_ok h3) (compG_ok h4) (compE_ok h5) hb.1 hb.2 c2 c4
  · obtain ⟨h1, h⟩ := chk_some h
    rw [Bool.and_eq_true] at h1
    obtain ⟨i, h2, h3⟩ := map_some h
    subst h3
    exact .newM h1.1 (idxOf_ok h2) (locB_ok h1.2)
  · cases h
def compTup (c : Cfg) (sc : Sc) (n : Nat) (tg e : Expr) : Option S := chk (noSwap sc tg e && plainSt sc tg e) ((compG c sc n tg).bind fun g => (compE c n sc e).map fun y => .asg g y)
def compAsg (c : Cfg) (sc : Sc) (M : List Nat) (n : Nat) (tg e : Expr) : Option S := match tg, e with
  | .Subscript (.Name x _) a _, e => chk (noSlice a && noComp e) ((nameSlot c sc x).bind fun i => (compE c n sc a).bind fun z => (compE c n sc e).bind fun y => match c.ms.contains i with
    | true => chk c.dk (some (.putM i z y))
    | false => some (.put i z y))
  | .Subscript (.Subscript (.Name x _) a _) b _, e => chk (noSlice a && noSlice b && noComp e) ((nameSlot c sc x).bind fun i => (compE c n sc a).bind fun xa => (compE c n sc b).bind fun xb => (compE c n sc e).map fun y => .put2 i xa xb y)
  | tg, .Call (.Attribute (.Name x _) f apos) [] [] cpos => chk (f == ("pop" : Str) && (apos.endLine == cpos.line)) ((nameSlot c sc x).bind fun i => (compG c sc n tg).map fun g => .pop g i)
  | .Tuple [.Name x px, .Name y py] kt pt, .Tuple [a, b] k2 pt2 => orElse (compPar c sc n x y px py a b) (compTup c sc n (.Tuple [.Name x px, .Name y py] kt pt) (.Tuple [a, b] k2 pt2))
  | .Tuple [.Name x px, .Name y py, .Name z pz] kt pt, .Tuple [a, b, d] k2 pt2 => orElse (compPar3 c sc n x y z px py pz a b d) (compTup c sc n (.Tuple [.Name x px, .Name y py, .Name z pz] kt pt) (.Tuple [a, b, d] k2 pt2))
  | .Name x p, e => orElse (compDeep c sc n x p e) (compSet c sc M n x p e)
  | tg, e => compTup c sc n tg e
theorem compPar_ok {c : Cfg} {sc : Sc} {n : Nat} {x y : Str} {px py pt pt2 pos : Pos} {kt k2 : Nat} {a b : Expr} {s : S} (h : compPar c sc n x y px py a b = some s) : CS c sc (.Assign [.Tuple [.Name x px, .Name y py] kt pt] (.Tuple [a, b] k2 pt2) pos) s := by
  obtain ⟨h1, h⟩ := chk_some h
  simp only [Bool.and_eq_true] at h1
  obtain ⟨⟨⟨⟨⟨⟨c1, c2⟩, c3⟩, c4⟩, c5⟩, c6⟩, c7⟩ := h1
  obtain ⟨i, h2, h⟩ := bind_some h
  obtain ⟨j, h3, h⟩ := bind_some h
  obtain ⟨xa, h4, h⟩ := bind_some h
  obtain ⟨xb, h5, h⟩ := map_some h
  subst h
  exact .par (idxOf_ok h2) (idxOf_ok h3) (localB_ok c1) (localB_ok c2) (not_true c3) c4 (compE_ok h4) (compE_ok h5) c5 c6 c7
theorem compPar3_ok {c : Cfg} {sc : Sc} {n : Nat} {x y z : Str} {px py pz pt pt2 pos : Pos} {kt k2 : Nat} {a b d : Expr} {s : S} (h : compPar3 c sc n x y z px py pz a b d = some s) : CS c sc (.Assign [.Tuple [.Name x px, .Name y py, .Name z pz] kt pt] (.Tuple [a, b, d] k2 pt2) pos) s := by
  obtain ⟨h1, h⟩ := chk_some h
  simp only [Bool.and_eq_true] at h1
  obtain ⟨⟨⟨⟨⟨⟨⟨⟨⟨⟨⟨c1, c2⟩, c3⟩, c4⟩, c5⟩, c6⟩, c7⟩, c8⟩, c9⟩, c10⟩, c11⟩, c12⟩ := h1
  obtain ⟨i, h2, h⟩ := bind_some h
  obtain ⟨j, h3, h⟩ := bind_some h
  obtain ⟨l, h3', h⟩ := bind_some h
  obtain ⟨xa, h4, h⟩ := bind_some h
  obtain ⟨xb, h5, h⟩ := bind_some h
  obtain ⟨xd, h6, h⟩ := map_some h
  subst h
  exact .par3 (idxOf_ok h2) (idxOf_ok h3) (idxOf_ok h3') (localB_ok c1) (localB_ok c2) (localB_ok c3) (not_true c4) (not_true c5) (not_true c6) c7 c8 (compE_ok h4) (compE_ok h5) (compE_ok h6) c9 c10 c11 c12
theorem compTup_ok {c : Cfg} {sc : Sc} {n : Nat} {tg e : Expr} {pos : Pos} {s : S} (h : compTup c sc n tg e = some s) : CS c sc (.Assign [tg] e pos) s := by
  obtain ⟨h1, h⟩ := chk_some h
  rw [Bool.and_eq_true] at h1
  obtain ⟨g, h2, h⟩ := bind_some h
  obtain ⟨y, h3, h⟩ := map_some h
  subst h
  exact .asg (compG_ok h2) (compE_ok h3) h1.1 h1.2
theorem yes_lc {sc : Sc} {x : Str} {p : Pos} {e : Expr} (h : yesSwap sc (.Name x p) e = true) : ∃ elt gs scope pos, e = .ListComp elt gs scope pos := by
  cases e <;> first | exact absurd h Bool.false_ne_true | exact ⟨_, _, _, _, rfl⟩
theorem plain_name {sc : Sc} {x : Str} {p : Pos} {e : Expr} : plainSt sc (.Name x p) e = true := by
  cases e <;> rfl
theorem compSet_ok {c : Cfg} {sc : Sc} {M : List Nat} {n : Nat} {x : Str} {p pos : Pos} {e : Expr} {s : S} (h : compSet c sc M n x p e = some s) : CS c sc (.Assign [.Name x p] e pos) s := by
  obtain ⟨i, h2, h⟩ := bind_some h
  obtain ⟨y, h3, h⟩ := bind_some h
  split at h
  · rename_i hy
    obtain ⟨h1, h⟩ := chk_some h
    cases h
    obtain ⟨elt, gs, scope, pos, rfl⟩ := yes_lc hy
    exact .asgLc (idxOf_ok h2) (localB_ok h1) (compE_ok h3) hy
  · rename_i hy
    obtain ⟨h1, h⟩ := chk_some h
    cases h
    obtain ⟨elt, gs, scope, pos, rfl⟩ := yes_lc hy
    exact .asgsLc (idxOf_ok h2) (localB_ok h1) (compE_ok h3) hy
  · obtain ⟨h1, h⟩ := chk_some h
    rw [Bool.and_eq_true] at h1
    cases h
    exact .asg (.nm (idxOf_ok h2) (locB_ok h1.1)) (compE_ok h3) h1.2 plain_name
  · obtain ⟨h1, h⟩ := chk_some h
    rw [Bool.and_eq_true] at h1
    cases h
    exact .asgs (idxOf_ok h2) (locB_ok h1.1) (compE_ok h3) h1.2
theorem compAsg_ok {c : Cfg} {sc : Sc} {M : List Nat} {n : Nat} {tg e : Expr} {pos : Pos} {s : S} (h : compAsg c sc M n tg e = some s) : CS c sc (.Assign [tg] e pos) s := by
  unfold compAsg at h
  split at h
  · obtain ⟨h1, h⟩ := chk_some h
    rw [Bool.and_eq_true] at h1
    obtain ⟨i, h2, h⟩ := bind_some h
    obtain ⟨z, h3, h⟩ := bind_some h
    obtain ⟨y, h4, h⟩ := bind_some h
    obtain ⟨n1, n2, n3, n4⟩ := nameSlot_ok h2
    split at h
    · obtain ⟨hk, h⟩ := chk_some h
      cases h
      exact .putM hk n1 n2 n3 n4 (compE_ok h3) (compE_ok h4) h1.1 h1.2
    · cases h
      exact .put n1 n2 n3 n4 (compE_ok h3) (compE_ok h4) h1.1 h1.2
  · obtain ⟨h1, h⟩ := chk_some h
    rw [Bool.and_eq_true, Bool.and_eq_true] at h1
    obtain ⟨i, h2, h⟩ := bind_some h
    obtain ⟨xa, h3, h⟩ := bind_some h
    obtain ⟨xb, h4, h⟩ := bind_some h
    obtain ⟨y, h5, h⟩ := map_some h
    subst h
    obtain ⟨n1, n2, n3, n4⟩ := nameSlot_ok h2
    exact .put2 n1 n2 n3 n4 (compE_ok h3) (compE_ok h4) (compE_ok h5) h1.1.1 h1.1.2 h1.2
  · obtain ⟨h1, k0⟩ := chk_some h
    rw [Bool.and_eq_true] at h1
    have hf := str_of_beq h1.1
    obtain ⟨i, h2, k1⟩ := bind_some k0
    obtain ⟨g, h3, k2⟩ := map_some k1
    subst k2
    subst hf
    obtain ⟨n1, n2, n3, n4⟩ := nameSlot_ok h2
    exact .pop (compG_ok h3) n1 n2 n3 n4 h1.2
  · rcases orElse_some h with h | h
    · exact compPar_ok h
    · exact compTup_ok h
  · rcases orElse_some h with h | h
    · exact compPar3_ok h
    · exact compTup_ok h
  · rcases orElse_some h with h | h
    · exact compDeep_ok h
    · exact compSet_ok h
  · exact compTup_ok h
mutual
def compS (c : Cfg) (sc : Sc) (M : List Nat) : Nat → Stmt → Option S
  | 0, _ => none
  | n + 1, st => match st with
    | .Assign [tg] e _ => compAsg c sc M n tg e
    | .Expr (.Call (.Attribute (.Name x _) f apos) [e] [] cpos) _ => chk (noStar e && (apos.endLine == cpos.line)) ((nameSlot c sc x).bind fun i => (compE c n sc e).bind fun y => match f == ("append" : Str) with
        | true => some (.app i y)
        | false => chk (f == ("extend" : Str)) (some (.ext i y)))
    | .Expr (.Call (.Attribute (.Subscript (.Name x _) a _) f apos) [e] [] cpos) _ => chk (noSlice a && noStar e && (apos.endLine == cpos.line) && (f == ("append" : Str))) ((nameSlot c sc x).bind fun i => (compE c n sc a).bind fun z => (compE c n sc e).map fun y => .app2 i z y)
    | .Expr (.Call (.Attribute (.Name x _) f apos) [a, e] [] cpos) _ => chk (noStar a && noStar e && (apos.endLine == cpos.line) && (f == ("insert" : Str))) ((nameSlot c sc x).bind fun i => (compE c n sc a).bind fun z => (compE c n sc e).map fun y => .ins i z y)
    | .Return (some e) _ => (compE c n sc e).map .ret
    | .Return none _ => some .retN
    | .If t a b _ => (compE c n sc t).bind fun z => (compSs c sc M n a).bind fun xa => (compSs c sc M n b).map fun xb => .ite z xa xb
    | .For tg iter body [] _ => chk (noSet iter) ((compG c sc n tg).bind fun g => (compI c n sc iter).bind fun it => (compSs c sc M n body).map fun b => .for_ g it b)
    | .While t body [] _ => (compE c n sc t).bind fun z => (compSs c sc M n body).map fun b => .while_ z b
    | .Raise _ _ _ => some .never
    | _ => none
def compSs (c : Cfg) (sc : Sc) (M : List Nat) : Nat → List Stmt → Option Ss
  | 0, _ => none
  | n + 1, l => match l with
    | [] => some .nil
    | st :: r => (compS c sc M n st).bind fun s => (compSs c sc M n r).map fun ss => shares ((before s).filter fun i => M.contains i) (.cons s (shares (after M s) ss))
end
mutual
theorem compS_ok {c : Cfg} {sc : Sc} {M : List Nat} : ∀ {n : Nat} {st : Stmt} {s : S}, compS c sc M n st = some s → CS c sc st s
  | 0, _, _, h => by simp [compS] at h
  | n + 1, st, s, h => by
    unfold compS at h
    split at h
    · exact compAsg_ok h
    · obtain ⟨h1, h⟩ := chk_some h
      rw [Bool.and_eq_true] at h1
      obtain ⟨i, h2, h⟩ := bind_some h
      obtain ⟨y, h3, h⟩ := bind_some h
      obtain ⟨n1, n2, n3, n4⟩ := nameSlot_ok h2
      split at h
      · rename_i hf
        cases h
        have hf := str_of_beq hf
        subst hf
        exact .app n1 n2 n3 n4 (compE_ok h3) h1.1 h1.2
      · obtain ⟨hf, h⟩ := chk_some h
        cases h
        have hf := str_of_beq hf
        subst hf
        exact .ext n1 n2 n3 n4 (compE_ok h3) h1.1 h1.2
    · obtain ⟨h1, h⟩ := chk_some h
      simp only [Bool.and_eq_true] at h1
      obtain ⟨i, h2, h⟩ := bind_some h
      obtain ⟨z, h3, h⟩ := bind_some h
      obtain ⟨y, h4, h⟩ := map_some h
      obtain ⟨n1, n2, n3, n4⟩ := nameSlot_ok h2
      subst h
      have hf := str_of_beq h1.2
      subst hf
      exact .app2 n1 n2 n3 n4 (compE_ok h3) (compE_ok h4) h1.1.1.1 h1.1.1.2 h1.1.2
    · obtain ⟨h1, h⟩ := chk_some h
      simp only [Bool.and_eq_true] at h1
      obtain ⟨i, h2, h⟩ := bind_some h
      obtain ⟨z, h3, h⟩ := bind_some h
      obtain ⟨y, h4, h⟩ := map_some h
      obtain ⟨n1, n2, n3, n4⟩ := nameSlot_ok h2
      subst h
      have hf := str_of_beq h1.2
      subst hf
      exact .ins n1 n2 n3 n4 (compE_ok h3) (compE_ok h4) h1.1.1.1 h1.1.1.2 h1.1.2
    · obtain ⟨y, h3, h⟩ := map_some h
      subst h
      exact .ret (compE_ok h3)
    · cases h; exact .retN
    · obtain ⟨z, h2, h⟩ := bind_some h
      obtain ⟨xa, h3, h⟩ := bind_some h
      obtain ⟨xb, h4, h⟩ := map_some h
      subst h
      exact .ite (compE_ok h2) (compSs_ok h3) (compSs_ok h4)
    · obtain ⟨h1, h⟩ := chk_some h
      obtain ⟨g, h2, h⟩ := bind_some h
      obtain ⟨it, h3, h⟩ := bind_some h
      obtain ⟨b, h4, h⟩ := map_some h
      subst h
      exact .for_ (compG_ok h2) (compI_ok h3) h1 (compSs_ok h4)
    · obtain ⟨z, h2, h⟩ := bind_some h
      obtain ⟨b, h4, h⟩ := map_some h
      subst h
      exact .while_ (compE_ok h2) (compSs_ok h4)
    · cases h; exact .never
    · cases h
theorem compSs_ok {c : Cfg} {sc : Sc} {M : List Nat} : ∀ {n : Nat} {st : List Stmt} {s : Ss}, compSs c sc M n st = some s → CSs c sc st s
  | 0, _, _, h => by simp [compSs] at h
  | n + 1, st, s, h => by
    unfold compSs at h
    split at h
    · cases h; exact .nil
    · obtain ⟨a, h2, h⟩ := bind_some h
      obtain ⟨b, h3, h⟩ := map_some h
      subst h
      exact shares_ok (.cons (compS_ok h2) (shares_ok (compSs_ok h3) _)) _
end
/-- a def's body -/
def compDef (c : Cfg) (st : Stmt) : Option Ss := chk (Nat.ble c.N.length 1000) (compSs { c with ms := mutSlots c.N (dictSs 100 (defBody st)), ds := mutSlots c.N (deepSs 100 (defBody st)) } (defScope st).names (mutSlots c.N (mutSs 100 (defBody st)) ++ c.ms) 100 (defBody st))

/-! ### a def keeps its promise -/
section
variable {P : Program} {w : World} {K : PySem.W.Frag} {mg : Str → Option Value} {base : Heap}
/-- the defs that are known -/
def TabOk (P : Program) (w : World) (K : PySem.W.Frag) (mg : Str → Option Value) (base : Heap) (k : Nat) (l : List (Str × Fn)) : Prop :=
  ∀ x f, l.lookup x = some f → ∃ a fd ps, mg x = some (.ref a) ∧ PySem.W.keepIn K (.ref a) = true ∧ Binds K fd ps [] ∧ FnG P w K mg base k a fd ps (spF K f)
/-- module tuples of defs -/
def CutOk (P : Program) (w : World) (K : PySem.W.Frag) (mg : Str → Option Value) (base : Heap) (k : Nat) (l : List (Str × List Fn)) : Prop :=
  ∀ x fs, l.lookup x = some fs → ∃ (a : Addr) (gs : List Addr), mg x = some (.ref a) ∧ Kt K a (gs.map V.ref) ∧ gs.length = fs.length ∧ ∀ (j : Nat) g f, gs[j]? = some g → fs[j]? = some f → PySem.W.keepIn K (.ref g) = true ∧ ∃ fd ps, Binds K fd ps [] ∧ FnG P w K mg base k g fd ps (spF K f)
theorem CutOk.nil {P : Program} {w : World} {K : PySem.W.Frag} {mg : Str → Option Value} {base : Heap} {k : Nat} : CutOk P w K mg base k [] := fun _ _ h => nomatch h
theorem CutOk.mono {P : Program} {w : World} {K : PySem.W.Frag} {mg : Str → Option Value} {base : Heap} {k j : Nat} {l : List (Str × List Fn)} (h : CutOk P w K mg base k l) (hk : k ≤ j) : CutOk P w K mg base j l := fun x fs e => by
  obtain ⟨a, gs, h1, h2, h3, h4⟩ := h x fs e
  refine ⟨a, gs, h1, h2, h3, fun i g f e1 e2 => ?_⟩
  obtain ⟨q1, fd, ps, q2, q3⟩ := h4 i g f e1 e2
  exact ⟨q1, fd, ps, q2, q3.mono hk⟩
/-- no tuple of ints stands in the written part -/
def NoKey (K : PySem.W.Frag) (dk : Bool) : Prop := dk = true → ∀ a (ns : List Int), ¬ Kt K a (ns.map V.int)
theorem NoKey.no {K : PySem.W.Frag} : NoKey K false := fun h => nomatch h
def CstOk (K : PySem.W.Frag) (mg : Str → Option Value) (l : List (Str × PyData)) : Prop := ∀ x d, l.lookup x = some d → ∃ u v, mg x = some u ∧ RelV v u ∧ ∀ H O, Rp K H O v d
theorem start_get {N : List Str} {vs : List V} {i : Nat} {v : V} (h : vs[i]? = some v) : (L2.start N vs)[i]? = some (some v) := by
  obtain ⟨hi, e⟩ := List.getElem?_eq_some_iff.mp h
  unfold L2.start
  rw [List.getElem?_append_left (by simpa using hi), List.getElem?_map, h]
  rfl
theorem startR_get {n i : Nat} {ds : List PyData} {r : R} (h : (startR n ds)[i]? = some (some r)) : ∃ d, ds[i]? = some d ∧ r = (false, d) := by
  unfold startR at h
  by_cases hi : i < ds.length
  · rw [List.getElem?_append_left (by simpa using hi), List.getElem?_map] at h
    cases e : ds[i]? with
    | none => rw [e] at h; cases h
    | some d => rw [e] at h; cases h; exact ⟨d, rfl, rfl⟩
  · rw [List.getElem?_append_right (by simpa using hi), List.getElem?_replicate] at h
    split at h <;> cases h
theorem fn_ok {name : Str} {st : Stmt} {f : Addr} {fd : FuncData} {N ps : List Str} {k n : Nat} {tab : List (Str × Fn)} {cst : List (Str × PyData)} {cut : List (Str × List Fn)} {dk : Bool} {hs : List Nat} {body : Ss} (F : Fun K name name st f fd) (S : FnScope N ps (defScope st)) (T : TabOk P w K mg base k tab) (C : CstOk K mg cst) (U : CutOk P w K mg base k cut) (nk : NoKey K dk) (blt : ∀ x ∈ builtinsUsed, mg x = none)
    (hc : compDef ⟨N, fun x => tab.lookup x, fun x => cst.lookup x, fun x => cut.lookup x, dk, hs, []⟩ st = some body) : FnG P w K mg base (k + 1) f fd ps (spF K (evDef n ps.length N.length body)) := by
  have hpl : ps.length ≤ N.length := by have := congrArg List.length S.pre; rw [List.length_take] at this; omega
  refine fnG_of F S (fun vs H Q E h => ?_) (fun cdv A outer s H vs Q E hst hr h => ?_)
  · obtain ⟨P', ds, r, hP, hv, hf, q⟩ := h
    unfold evDef at hf
    split at hf
    · rename_i hl; rw [hv.length]; exact hl
    · cases hf
  · obtain ⟨P', ds, r, hP, hv, hf, q⟩ := h
    unfold evDef at hf
    split at hf
    case isFalse => cases hf
    rename_i hl
    obtain ⟨hN, hc⟩ := chk_some hc
    have hN : N.length ≤ 1000 := Nat.le_of_ble_eq_true hN
    have gd : Good ⟨N, fun x => tab.lookup x, fun x => cst.lookup x, fun x => cut.lookup x, dk, mutSlots N (dictSs 100 (defBody st)), mutSlots N (deepSs 100 (defBody st))⟩ k (defScope st).names (cxOf CX0 P w K mg base N name (defScope st) f cdv A outer s H E).nox :=
      ⟨rfl, S.nd, rfl, S.kind, fun _ h => h, fun _ h => ⟨h, rfl⟩, fun _ h => .inr h, fun _ h => h, hst, hr, PassesOwn.never, T, blt, C, U, nk⟩
    refine ⟨_, soundSs (n := n) gd (compSs_ok hc), ?_⟩
    have ok : Ok K P' H (fun _ => none) H (L2.start N vs) (startR N.length ds) := by
      have hl2 : (startR N.length ds).length = N.length := by
        unfold startR
        rw [List.length_append, List.length_map, List.length_replicate]
        omega
      refine ⟨?_, by rw [hl2]; exact hN, Same.refl H, (fun i j a e => nomatch e), (fun i a e => nomatch e), (fun i a e => nomatch e), hP, fun i r e => ?_⟩
      · unfold L2.start startR
        rw [List.length_append, List.length_append, List.length_map, List.length_map, List.length_replicate, List.length_replicate, hv.length]
      · obtain ⟨d, e1, e2⟩ := startR_get e
        subst e2
        obtain ⟨v, e3, h⟩ := hv.get e1
        exact ⟨v, start_get e3, Rp.less h fun a z => z.elim _root_.id fun ⟨_, z⟩ => nomatch z⟩
    cases ev : evSs n body (startR N.length ds) with
    | none => rw [ev] at hf; cases hf
    | some out =>
      rw [ev] at hf
      refine ⟨P', H, _, _, out, ok, ev, ?_⟩
      cases out with
      | nx ρ' =>
        cases hf
        exact fun A' σ' H' ok' _ => q .non H' ok'.grow .non
      | rt r' =>
        cases hf
        exact fun v H' s h => q v H' s h
      | bk ρ' => cases hf
      | ct ρ' => cases hf
theorem TabOk.nil : TabOk P w K mg base 0 [] := fun _ _ h => nomatch h
theorem TabOk.cons {k : Nat} {tab : List (Str × Fn)} {x : Str} {fn : Fn} {a : Addr} {fd : FuncData} {ps : List Str} (T : TabOk P w K mg base k tab) (hm : mg x = some (.ref a)) (hk : PySem.W.keepIn K (.ref a) = true) (B : Binds K fd ps []) (F : FnG P w K mg base (k + 1) a fd ps (spF K fn)) : TabOk P w K mg base (k + 1) ((x, fn) :: tab) := by
  intro y g h
  rw [List.lookup_cons] at h
  split at h
  · rename_i e
    cases h
    rw [beq_iff_eq.mp e]
    exact ⟨a, fd, ps, hm, hk, B, F⟩
  · obtain ⟨a', fd', ps', h1, h2, h3, h4⟩ := T y g h
    exact ⟨a', fd', ps', h1, h2, h3, h4.mono (Nat.le_succ k)⟩
/-- one more def, by its text -/
theorem TabOk.more {k n : Nat} {tab : List (Str × Fn)} {cst : List (Str × PyData)} {cut : List (Str × List Fn)} {dk : Bool} {hs : List Nat} {name : Str} {st : Stmt} {f : Addr} {fd : FuncData} {N ps : List Str} {body : Ss} {fn : Fn} (T : TabOk P w K mg base k tab) (C : CstOk K mg cst) (U : CutOk P w K mg base k cut) (nk : NoKey K dk) (blt : ∀ x ∈ builtinsUsed, mg x = none) (hm : mg name = some (.ref f)) (F : Fun K name name st f fd) (B : Binds K fd ps []) (S : FnScope N ps (defScope st))
    (hc : compDef ⟨N, fun x => tab.lookup x, fun x => cst.lookup x, fun x => cut.lookup x, dk, hs, []⟩ st = some body) (hf : fn = evDef n ps.length N.length body) : TabOk P w K mg base (k + 1) ((name, fn) :: tab) := by
  subst hf
  exact T.cons hm F.kp B (fn_ok F S T C U nk blt hc)
end
end PV

set_option Elab.async false
set_option linter.all false
set_option maxRecDepth 100000
set_option maxHeartbeats 4000000
/-! PVL: the law's end; plain rules for loops. -/
namespace PV
open PySem PySem.Spec PyProof.Rows L2
def FUEL : Nat := 1000000000000000
/-- no list stands in the written part -/
def isLst (o : Obj) : Bool := match o.cls with
  | .type s => s == "list"
  | _ => false
def noLst (K : PySem.W.Frag) : Bool := K.all fun p => !isLst p.2
theorem lookup_mem {a : Addr} {o : Obj} : ∀ {K : PySem.W.Frag}, K.lookup a = some o → (a, o) ∈ K
  | [], h => by cases h
  | (b, u) :: r, h => by
    rw [List.lookup_cons] at h
    split at h
    · rename_i e
      cases h
      rw [beq_iff_eq.mp e]
      exact List.mem_cons_self
    · exact List.mem_cons_of_mem _ (lookup_mem h)
theorem rd_of_sq {K : PySem.W.Frag} {H : Hp} {a : Addr} {xs : List V} (hK : noLst K = true) (h : SqL K H a xs) : Rd H a (.lst xs) := by
  rcases h with h | ⟨o, its, n, e, hc, _⟩
  · exact h
  · have hm : (a, o) ∈ K := lookup_mem e
    have := List.all_eq_true.mp hK _ hm
    unfold isLst at this
    rw [hc] at this
    cases this
theorem spF_law {K : PySem.W.Frag} {H : Hp} {a : Addr} {ns : List Int} {f : Fn} {E0 : XK} (hK : noLst K = true) (hS : SqL K H a (ns.map V.int)) (h : f [.list (ns.map .int)] = some (false, .bool true)) : spF K f [.ref a] H (fun v _ => v = .bl true) E0 :=
  ⟨fun _ => False, [.list (ns.map .int)], _, fun _ z => z.elim, .cons (.lst (rd_of_sq hK hS) (fun z => z) rpA_ints) .nil, h, fun v H' _ r => by cases r; rfl⟩
def isI : Value → Bool
  | .int _ _ => true
  | _ => false
/-- a tuple of ints -/
def isIntTup (o : Obj) : Bool := match o.cls with
  | .type t => t == "tuple" && (match o.data with
    | .seq its _ => its.toList.all isI
    | _ => false)
  | _ => false
def noIntTup (K : PySem.W.Frag) : Bool := K.all fun p => !isIntTup p.2
theorem vals_ints : ∀ {ns : List Int} {us : List Value}, Vals (ns.map V.int) us → us.all isI = true
  | [], _, h => by cases h; rfl
  | n :: ns, _, h => by
    cases h with
    | cons h t =>
      obtain ⟨k, rfl⟩ := h
      rw [List.all_cons, vals_ints t]; rfl
theorem NoKey.of {K : PySem.W.Frag} {dk : Bool} (hK : noIntTup K = true) : NoKey K dk := fun _ a ns ⟨o, its, n, e, hc, hd, _, hv⟩ => by
  have hm : (a, o) ∈ K := lookup_mem e
  have := List.all_eq_true.mp hK _ hm
  have h2 : isIntTup o = true := by
    unfold isIntTup
    rw [hc, hd]
    show (("tuple" == "tuple") && its.toList.all isI) = true
    rw [vals_ints hv]
    rfl
  rw [h2] at this
  cases this
theorem CstOk.nil {K : PySem.W.Frag} {mg : Str → Option Value} : CstOk K mg [] := fun _ _ h => nomatch h
theorem builtins_none {mg : Str → Option Value} (h0 : mg "len" = none) (h1 : mg "abs" = none) (h2 : mg "int" = none) (h3 : mg "min" = none) (h4 : mg "max" = none) (h5 : mg "sum" = none) (h6 : mg "sorted" = none) (h7 : mg "list" = none) (h8 : mg "tuple" = none) (h9 : mg "isinstance" = none) (h10 : mg "bool" = none) (h11 : mg "str" = none) (h12 : mg "range" = none) (h13 : mg "repr" = none) (h14 : mg "set" = none) : ∀ x ∈ builtinsUsed, mg x = none := by
  intro x hx
  unfold builtinsUsed at hx
  simp only [List.mem_cons, List.not_mem_nil, or_false] at hx
  rcases hx with rfl | rfl | rfl | rfl | rfl | rfl | rfl | rfl | rfl | rfl | rfl | rfl | rfl | rfl | rfl <;> assumption
end PV

set_option Elab.async false
set_option linter.all false
set_option maxRecDepth 100000
set_option maxHeartbeats 4000000
/-! PVM: plain rules over natural numbers. -/
namespace PV
open PySem L2
/-- a natural number as data -/
def N (n : Nat) : PyData := .int n
abbrev sN (n : Nat) : Option R := some (false, N n)
theorem N_def (n : Nat) : PyData.int (n : Int) = N n := rfl
theorem N_zero : PyData.int 0 = N 0 := rfl
theorem N_one : PyData.int 1 = N 1 := rfl
theorem N_inj {a b : Nat} : N a = N b ↔ a = b := ⟨fun h => by unfold N at h; injection h with h; omega, fun h => by rw [h]⟩
theorem log2_lt {a : Nat} (h : a < 2 ^ 400000) : a.log2 < 400000 := by
  by_cases h0 : a = 0
  · subst h0; rw [Nat.log2_zero]; omega
  · exact (Nat.log2_lt h0).mpr h
def big (a : Nat) : Prop := a < 2 ^ 400000
theorem n_add (a b : Nat) : evBin .add (N a) (N b) = some (false, N (a + b)) := by
  show some (false, PyData.int ((a : Int) + b)) = some (false, PyData.int ((a + b : Nat) : Int))
  rw [Int.natCast_add]
theorem n_sub {a b : Nat} (h : b ≤ a) : evBin .sub (N a) (N b) = some (false, N (a - b)) := by
  show some (false, PyData.int ((a : Int) - b)) = some (false, PyData.int ((a - b : Nat) : Int))
  rw [Int.natCast_sub h]
theorem small_lt {a : Nat} (h : a < 2 ^ 64) : a.log2 < 64 := by
  by_cases h0 : a = 0
  · subst h0; rw [Nat.log2_zero]; omega
  · exact (Nat.log2_lt h0).mpr h
theorem n_mul {a b : Nat} (ha : a < 2 ^ 64) (hb : b < 2 ^ 64) : evBin .mul (N a) (N b) = some (false, N (a * b)) := by
  have hm : mulOk (a : Int) (b : Int) = true := by
    unfold mulOk
    have h1 := small_lt ha
    have h2 := small_lt hb
    simp only [Int.natAbs_natCast, Nat.blt_eq]
    omega
  show (if mulOk (a : Int) (b : Int) then some (false, PyData.int ((a : Int) * b)) else none) = some (false, PyData.int ((a * b : Nat) : Int))
  rw [if_pos hm, Int.natCast_mul]
theorem n_mod {a b : Nat} (h : 0 < b) : evBin .mod (N a) (N b) = some (false, N (a % b)) := by
  show (if decide ((0 : Int) < (b : Int)) then some (false, PyData.int ((a : Int) % b)) else none) = some (false, PyData.int ((a % b : Nat) : Int))
  rw [if_pos (decide_eq_true (by omega)), Int.natCast_emod]
theorem n_div {a b : Nat} (h : 0 < b) (hb : b < 2 ^ 64) : evBin .fdiv (N a) (N b) = some (false, N (a / b)) := by
  have hm : divOk (b : Int) = true := by
    unfold divOk
    have h2 := small_lt hb
    simp only [Int.natAbs_natCast, Nat.blt_eq, Bool.and_eq_true, decide_eq_true_eq]
    omega
  show (if divOk (b : Int) then some (false, PyData.int ((a : Int).fdiv b)) else none) = some (false, PyData.int ((a / b : Nat) : Int))
  rw [if_pos hm, Int.fdiv_eq_ediv_of_nonneg _ (by omega), Int.natCast_ediv]
theorem n_shl {a b : Nat} (ha : a < 2 ^ 64) (hb : b ≤ 1000000) : evBin .shl (N a) (N b) = some (false, N (a * 2 ^ b)) := by
  have hm : powOk (a : Int) (b : Int) = true := by
    unfold powOk
    simp only [Int.natAbs_natCast, Nat.blt_eq, Bool.and_eq_true, decide_eq_true_eq]
    omega
  show (if powOk (a : Int) (b : Int) then some (false, PyData.int ((a : Int) * 2 ^ (b : Int).toNat)) else none) = some (false, PyData.int ((a * 2 ^ b : Nat) : Int))
  rw [if_pos hm, Int.toNat_natCast, Int.natCast_mul, Int.natCast_pow]
  rfl
theorem n_shr (a b : Nat) : evBin .shr (N a) (N b) = some (false, N (a / 2 ^ b)) := by
  show (if decide ((0 : Int) ≤ (b : Int)) then some (false, PyData.int ((a : Int) / 2 ^ (b : Int).toNat)) else none) = some (false, PyData.int ((a / 2 ^ b : Nat) : Int))
  rw [if_pos (decide_eq_true (by omega)), Int.toNat_natCast, Int.natCast_ediv, Int.natCast_pow]
  rfl
theorem n_band (a b : Nat) : evBin .band (N a) (N b) = some (false, N (a &&& b)) := by
  show some (false, PyData.int (Builtin.bitAnd a b)) = _
  rfl
theorem n_bor (a b : Nat) : evBin .bor (N a) (N b) = some (false, N (a ||| b)) := by
  have e : ∀ c : Nat, Builtin.bitNot (Builtin.bitNot (c : Int)) = c := fun c => by unfold Builtin.bitNot; omega
  have d : ∀ c : Nat, decide (0 ≤ Builtin.bitNot (c : Int)) = false := fun c => decide_eq_false (by unfold Builtin.bitNot; omega)
  show some (false, PyData.int (Builtin.bitOr a b)) = _
  unfold Builtin.bitOr Builtin.bitAnd
  rw [d a, d b]
  show some (false, PyData.int (Builtin.bitNot (Builtin.bitNot (((Builtin.bitNot (Builtin.bitNot (a : Int))).toNat ||| (Builtin.bitNot (Builtin.bitNot (b : Int))).toNat : Nat) : Int)))) = _
  rw [e, e, e, Int.toNat_natCast, Int.toNat_natCast]
  rfl
theorem n_eq (a b : Nat) : evCmp .eq (N a) (N b) = some (decide (a = b)) := by
  show some (decide ((a : Int) = (b : Int))) = some (decide (a = b))
  simp only [Int.ofNat_inj]
theorem n_ne (a b : Nat) : evCmp .ne (N a) (N b) = some (!decide (a = b)) := by
  show some (!decide ((a : Int) = (b : Int))) = some (!decide (a = b))
  simp only [Int.ofNat_inj]
theorem n_lt (a b : Nat) : evCmp .lt (N a) (N b) = some (decide (a < b)) := by
  show some (decide ((a : Int) < (b : Int))) = some (decide (a < b))
  simp only [Int.ofNat_lt]
theorem n_gt (a b : Nat) : evCmp .gt (N a) (N b) = some (decide (b < a)) := by
  show some (decide ((b : Int) < (a : Int))) = some (decide (b < a))
  simp only [Int.ofNat_lt]
theorem n_le (a b : Nat) : evCmp .le (N a) (N b) = some (decide (a ≤ b)) := by
  show some (decide ((a : Int) ≤ (b : Int))) = some (decide (a ≤ b))
  simp only [Int.ofNat_le]
theorem n_ge (a b : Nat) : evCmp .ge (N a) (N b) = some (decide (b ≤ a)) := by
  show some (decide ((b : Int) ≤ (a : Int))) = some (decide (b ≤ a))
  simp only [Int.ofNat_le]
theorem lenOk_of {n : Nat} (h : n ≤ 16777216) : lenOk n = true := Nat.ble_eq_true_of_le h
theorem smallN {a : Nat} (h : a ≤ 1000000000) : smallI (a : Int) = true := by
  unfold smallI
  simp only [Bool.and_eq_true, decide_eq_true_eq]
  omega
theorem rngI_N (a n : Nat) : rngI (a : Int) n = (List.range' a n).map N := by
  unfold rngI
  rw [List.range'_eq_map_range, List.map_map]
  exact List.map_congr_left fun k _ => by simp [N]
theorem n_rng1 {n : Nat} (h : n ≤ 1000000) : evRng [N n] = some ((List.range n).map N) := by
  show (if smallI (n : Int) && lenOk (n : Int).toNat then some (rngI 0 (n : Int).toNat) else none) = _
  rw [smallN (by omega), Int.toNat_natCast, lenOk_of (by omega)]
  show some (rngI ((0 : Nat) : Int) n) = _
  rw [rngI_N, List.range_eq_range']
theorem n_rng2 {a b : Nat} (ha : a ≤ 1000000) (h : b ≤ 1000000) : evRng [N a, N b] = some ((List.range' a (b - a)).map N) := by
  have e : ((b : Int) - (a : Int)).toNat = b - a := by omega
  show (if smallI (a : Int) && smallI (b : Int) && lenOk ((b : Int) - (a : Int)).toNat then some (rngI (a : Int) ((b : Int) - (a : Int)).toNat) else none) = _
  rw [smallN (by omega), smallN (by omega), e, lenOk_of (by omega), rngI_N]
  rfl
/-- comprehensions -/
theorem compGo_map {α β : Type} {f : PyData → Option (Option PyData)} {enc : α → PyData} {en2 : β → PyData} (g : α → Option β) : ∀ (l : List α), (∀ x ∈ l, f (enc x) = some ((g x).map en2)) → compGo f (l.map enc) = some ((l.filterMap g).map en2)
  | [], _ => rfl
  | x :: l, h => by
    have ih := compGo_map g l fun y hy => h y (List.mem_cons_of_mem _ hy)
    rw [List.map_cons]
    unfold compGo
    rw [h x List.mem_cons_self]
    cases e : g x with
    | none => rw [List.filterMap_cons_none e]; exact ih
    | some y => rw [List.filterMap_cons_some e]; show (match compGo f (l.map enc) with | none => none | some ys => some (en2 y :: ys)) = _; rw [ih]; rfl
theorem compGo2_map {α β : Type} {f : PyData → Option (List PyData)} {enc : α → PyData} {en2 : β → PyData} (g : α → List β) : ∀ (l : List α), (∀ x ∈ l, f (enc x) = some ((g x).map en2)) → compGo2 f (l.map enc) = some ((l.flatMap g).map en2)
  | [], _ => rfl
  | x :: l, h => by
    have ih := compGo2_map g l fun y hy => h y (List.mem_cons_of_mem _ hy)
    rw [List.map_cons]
    unfold compGo2
    rw [h x List.mem_cons_self]
    show (match compGo2 f (l.map enc) with | none => none | some ys => some ((g x).map en2 ++ ys)) = _
    rw [ih, List.flatMap_cons, List.map_append]
theorem intsOf_N : ∀ l : List Nat, intsOf (l.map N) = some (l.map fun n : Nat => (n : Int))
  | [] => rfl
  | x :: l => by
    rw [List.map_cons, List.map_cons]
    show (intsOf (l.map N)).map _ = _
    rw [intsOf_N l]
    rfl
theorem n_sum (l : List Nat) : evBI .sum [.list (l.map N)] = some (false, N l.sum) := by
  show (intsOf (l.map N)).map _ = _
  rw [intsOf_N]
  have e : (l.map fun n : Nat => (n : Int)).sum = (l.sum : Int) := by
    induction l with
    | nil => rfl
    | cons x l ih => rw [List.map_cons, List.sum_cons, List.sum_cons, ih, Int.natCast_add]
  show some (false, PyData.int (l.map fun n : Nat => (n : Int)).sum) = _
  rw [e]
  rfl
theorem n_len (l : List PyData) : evBI .len [.list l] = some (false, N l.length) := rfl
end PV
namespace PV
open PySem L2
/-- a loop that runs to its end -/
theorem forGo_ind {α : Type} {g : G} {f : Sl → Option Out} (enc : α → PyData) (I : List α → Sl → Prop) : ∀ (l done : List α) (ρ : Sl), I done ρ →
    (∀ (pre : List α) (x : α) (suf : List α) (ρ : Sl), done ++ l = pre ++ x :: suf → I pre ρ → ∃ ρ1 ρ2, asg g (enc x) ρ = some ρ1 ∧ f ρ1 = some (.nx ρ2) ∧ I (pre ++ [x]) ρ2) → ∃ ρ', forGo g f (l.map enc) ρ = some (.nx ρ') ∧ I (done ++ l) ρ'
  | [], done, ρ, h0, _ => ⟨ρ, rfl, by rw [List.append_nil]; exact h0⟩
  | x :: l, done, ρ, h0, hs => by
    obtain ⟨ρ1, ρ2, e1, e2, h2⟩ := hs done x l ρ rfl h0
    have ea : done ++ [x] ++ l = done ++ x :: l := by rw [List.append_assoc]; rfl
    obtain ⟨ρ', e3, h3⟩ := forGo_ind enc I l (done ++ [x]) ρ2 h2 fun pre y suf ρ he => hs pre y suf ρ (ea ▸ he)
    refine ⟨ρ', ?_, ea ▸ h3⟩
    rw [List.map_cons, forGo, e1]
    show (match f ρ1 with | some (.nx ρ2) => forGo g f (l.map enc) ρ2 | some (.ct ρ2) => forGo g f (l.map enc) ρ2 | some (.bk ρ2) => some (.nx ρ2) | some (.rt r) => some (.rt r) | none => none) = _
    rw [e2]
    exact e3
theorem forGo_do {α : Type} {g : G} {f : Sl → Option Out} (enc : α → PyData) (I : List α → Sl → Prop) {l : List α} {ρ : Sl} (h0 : I [] ρ)
    (hs : ∀ (pre : List α) (x : α) (suf : List α) (ρ : Sl), l = pre ++ x :: suf → I pre ρ → ∃ ρ1 ρ2, asg g (enc x) ρ = some ρ1 ∧ f ρ1 = some (.nx ρ2) ∧ I (pre ++ [x]) ρ2) : ∃ ρ', forGo g f (l.map enc) ρ = some (.nx ρ') ∧ I l ρ' :=
  forGo_ind enc I l [] ρ h0 hs
theorem filterMap_some {α β : Type} (f : α → β) (l : List α) : l.filterMap (fun x => some (f x)) = l.map f := by
  induction l with
  | nil => rfl
  | cons x l ih => simp [ih]
theorem sum_const {α : Type} (w : Nat) (l : List α) : (l.map fun _ => w).sum = l.length * w := by
  induction l with
  | nil => simp
  | cons x l ih => rw [List.map_cons, List.sum_cons, ih, List.length_cons, Nat.succ_mul, Nat.add_comm]
end PV
namespace PV
theorem lenOk_0 : lenOk 0 = true := rfl
theorem lenOk_1 : lenOk 1 = true := rfl
theorem lenOk_2 : lenOk 2 = true := rfl
theorem lenOk_3 : lenOk 3 = true := rfl
theorem lenOk_4 : lenOk 4 = true := rfl
theorem lenOk_5 : lenOk 5 = true := rfl
theorem lenOk_6 : lenOk 6 = true := rfl
theorem lenOk_7 : lenOk 7 = true := rfl
theorem lenOk_8 : lenOk 8 = true := rfl
theorem n_rng2' {a b : Nat} (ha : a ≤ 1000) (h : b ≤ 1000) : evRng [N a, N b] = some ((List.range' a (b - a)).map N) := n_rng2 (Nat.le_trans ha (by decide)) (Nat.le_trans h (by decide))
end PV
namespace PV
open PySem L2
theorem q_lit (n : Nat) : PyData.int (@OfNat.ofNat Int n instOfNat) = N n := Eq.trans rfl (Eq.refl _)
def minN : Nat → List Nat → Nat
  | m, [] => m
  | m, x :: xs => minN (if x < m then x else m) xs
def insN (x : Nat) : List Nat → List Nat
  | [] => [x]
  | y :: ys => if x ≤ y then x :: y :: ys else y :: insN x ys
def sortN : List Nat → List Nat
  | [] => []
  | x :: xs => insN x (sortN xs)
def dedupN : List Nat → List Nat
  | [] => []
  | x :: xs => if xs.contains x then dedupN xs else x :: dedupN xs
abbrev casts (l : List Nat) : List Int := l.map fun n : Nat => (n : Int)
theorem minI_N : ∀ (l : List Nat) (m : Nat), minI (m : Int) (casts l) = (minN m l : Int)
  | [], m => rfl
  | x :: l, m => by
    show minI (if (x : Int) < (m : Int) then (x : Int) else (m : Int)) (casts l) = (minN (if x < m then x else m) l : Int)
    by_cases h : x < m
    · rw [if_pos h, if_pos (by omega)]; exact minI_N l x
    · rw [if_neg h, if_neg (by omega)]; exact minI_N l m
theorem insI_N (x : Nat) : ∀ l : List Nat, insI (x : Int) (casts l) = casts (insN x l)
  | [] => rfl
  | y :: l => by
    show (if (x : Int) ≤ (y : Int) then (x : Int) :: (y : Int) :: casts l else (y : Int) :: insI (x : Int) (casts l)) = casts (if x ≤ y then x :: y :: l else y :: insN x l)
    by_cases h : x ≤ y
    · rw [if_pos h, if_pos (by omega)]; rfl
    · rw [if_neg h, if_neg (by omega), insI_N x l]; rfl
theorem sortI_N : ∀ l : List Nat, sortI (casts l) = casts (sortN l)
  | [] => rfl
  | x :: l => by
    show insI (x : Int) (sortI (casts l)) = casts (insN x (sortN l))
    rw [sortI_N l, insI_N]
theorem contains_N (x : Nat) (l : List Nat) : (casts l).contains (x : Int) = l.contains x := by
  rw [Bool.eq_iff_iff, List.contains_iff_mem, List.contains_iff_mem, List.mem_map]
  constructor
  · rintro ⟨a, h1, h2⟩
    have : a = x := by omega
    rw [← this]; exact h1
  · intro h; exact ⟨x, h, rfl⟩
theorem dedupI_N : ∀ l : List Nat, dedupI (casts l) = casts (dedupN l)
  | [] => rfl
  | x :: l => by
    show (if (casts l).contains (x : Int) then dedupI (casts l) else (x : Int) :: dedupI (casts l)) = casts (if l.contains x then dedupN l else x :: dedupN l)
    rw [contains_N, dedupI_N l]
    cases l.contains x <;> rfl
theorem casts_N (l : List Nat) : (casts l).map PyData.int = l.map N := by
  rw [List.map_map]; rfl
theorem n_min (x : Nat) (l : List Nat) : evBI .min [.list ((x :: l).map N)] = some (false, N (minN x l)) := by
  show (intsOf ((x :: l).map N)).bind _ = _
  rw [intsOf_N]
  show some (false, PyData.int (minI (x : Int) (casts l))) = _
  rw [minI_N]; rfl
theorem n_sset {l : List Nat} (h : l.length < 64) : evBI .sortedSet [.list (l.map N)] = some (true, .list ((sortN (dedupN l)).map N)) := by
  show (intsOf (l.map N)).bind _ = _
  rw [intsOf_N]
  show (if Nat.blt (casts l).length 64 then some (true, PyData.list ((sortI (dedupI (casts l))).map PyData.int)) else none) = _
  have hb : Nat.blt (casts l).length 64 = true := Nat.ble_eq_true_of_le (by rw [List.length_map]; exact h)
  rw [if_pos hb, dedupI_N, sortI_N, casts_N]
/-- the items that are kept -/
def keepIf {α : Type} (p : α → Bool) (l : List α) : List α := l.filterMap fun x => if p x then some x else none
end PV
namespace PV
open PySem L2
theorem atI_N {α : Type} (ds : List α) (i : Nat) : L2.atI ds (i : Int) = ds[i]? := by
  unfold L2.atI L2.ixN
  rw [if_pos (by omega : (0 : Int) ≤ (i : Int))]
  by_cases h : i < ds.length
  · rw [if_pos (by omega), Option.bind_some, Int.toNat_natCast]
  · rw [if_neg (by omega), List.getElem?_eq_none (by omega)]
    rfl
theorem n_ixt (ds : List PyData) (i : Nat) : evIx (.tuple ds) (N i) = (ds[i]?).map fun d => (false, d) := by
  show (L2.atI ds (i : Int)).map _ = _
  rw [atI_N]
theorem n_ixl (ds : List PyData) (i : Nat) : evIx (.list ds) (N i) = (ds[i]?).map fun d => (false, d) := by
  show (L2.atI ds (i : Int)).map _ = _
  rw [atI_N]
theorem q_isn (d : PyData) : evCmp .isn d .none = some (isNone d) := by cases d <;> rfl
theorem q_notn (d : PyData) : evCmp .notn d .none = some (!isNone d) := by cases d <;> rfl
end PV
namespace PV
open PySem L2
theorem q_l2 : PyData.int 2 = N 2 := Eq.trans rfl (Eq.refl _)
theorem q_l3 : PyData.int 3 = N 3 := Eq.trans rfl (Eq.refl _)
theorem q_l4 : PyData.int 4 = N 4 := Eq.trans rfl (Eq.refl _)
theorem q_l5 : PyData.int 5 = N 5 := Eq.trans rfl (Eq.refl _)
theorem q_l6 : PyData.int 6 = N 6 := Eq.trans rfl (Eq.refl _)
theorem q_l7 : PyData.int 7 = N 7 := Eq.trans rfl (Eq.refl _)
theorem q_l8 : PyData.int 8 = N 8 := Eq.trans rfl (Eq.refl _)
theorem q_l9 : PyData.int 9 = N 9 := Eq.trans rfl (Eq.refl _)
theorem q_l10 : PyData.int 10 = N 10 := Eq.trans rfl (Eq.refl _)
theorem q_l11 : PyData.int 11 = N 11 := Eq.trans rfl (Eq.refl _)
theorem q_l12 : PyData.int 12 = N 12 := Eq.trans rfl (Eq.refl _)
theorem q_l13 : PyData.int 13 = N 13 := Eq.trans rfl (Eq.refl _)
end PV
namespace PV
open PySem L2
/-- comparison with the empty list -/
theorem eqv_nil (ds : List PyData) : PyData.eqv (.list ds) (.list []) = ds.isEmpty := by cases ds <;> rfl
theorem n_eqNil {ds : List PyData} (h : dok (.list ds) = true) : evCmp .eq (.list ds) (.list []) = some ds.isEmpty := by
  show (if dok (.list ds) && dok (.list []) then some (PyData.eqv (.list ds) (.list [])) else none) = _
  rw [h, eqv_nil]; rfl
theorem n_neNil {ds : List PyData} (h : dok (.list ds) = true) : evCmp .ne (.list ds) (.list []) = some (!ds.isEmpty) := by
  show (if dok (.list ds) && dok (.list []) then some (!PyData.eqv (.list ds) (.list [])) else none) = _
  rw [h, eqv_nil]; rfl
end PV
namespace PV
open PySem L2
/-- data that may be compared: k deep at most -/
def DK (k : Nat) (d : PyData) : Prop := d.depth ≤ k ∧ d.plain = true
theorem dk_N {k : Nat} (n : Nat) : DK k (N n) := by unfold DK N; simp [PyData.depth, PyData.plain]
theorem dk_int {k : Nat} (i : Int) : DK k (.int i) := by unfold DK; simp [PyData.depth, PyData.plain]
theorem dk_all {k : Nat} : ∀ {ds : List PyData}, (∀ d ∈ ds, DK k d) → PyData.depthAll ds ≤ k ∧ PyData.plainAll ds = true
  | [], _ => by simp [PyData.depthAll, PyData.plainAll]
  | d :: ds, h => by
    have h1 := h d List.mem_cons_self
    have h2 := dk_all fun x hx => h x (List.mem_cons_of_mem _ hx)
    simp only [PyData.depthAll, PyData.plainAll, h1.2, h2.2, Bool.and_self, and_true]
    exact Nat.max_le.mpr ⟨h1.1, h2.1⟩
theorem dk_list {k : Nat} {ds : List PyData} (h : ∀ d ∈ ds, DK k d) : DK (k + 1) (.list ds) := by
  have h2 := dk_all h
  unfold DK
  simp only [PyData.depth, PyData.plain, h2.2, and_true]
  omega
theorem dk_tuple {k : Nat} {ds : List PyData} (h : ∀ d ∈ ds, DK k d) : DK (k + 1) (.tuple ds) := by
  have h2 := dk_all h
  unfold DK
  simp only [PyData.depth, PyData.plain, h2.2, and_true]
  omega
theorem DK.mono {k j : Nat} {d : PyData} (h : DK k d) (hk : k ≤ j) : DK j d := ⟨Nat.le_trans h.1 hk, h.2⟩
theorem DK.dok {k : Nat} {d : PyData} (h : DK k d) (hk : k ≤ 50) : dok d = true := by
  unfold PV.dok
  rw [h.2, Bool.and_true]
  exact Nat.ble_eq_true_of_le (Nat.le_trans h.1 hk)
theorem dk_map {α : Type} {k : Nat} {enc : α → PyData} {l : List α} (h : ∀ x, DK k (enc x)) : ∀ d ∈ l.map enc, DK k d := fun d hd => by
  obtain ⟨x, _, rfl⟩ := List.mem_map.mp hd
  exact h x
theorem dk_two {k : Nat} {a b : PyData} (h1 : DK k a) (h2 : DK k b) : ∀ d ∈ [a, b], DK k d := fun d hd => by
  rcases List.mem_cons.mp hd with rfl | hd
  · exact h1
  · rw [List.mem_singleton.mp hd]; exact h2
end PV
namespace PV
open PySem L2
theorem n_sorted {ds : List PyData} (hi : intsOf ds = none) (h : sdok ds = true) : evBI .sorted [.list ds] = some (true, .list (ds.mergeSort (W.dataLe false fun d => d))) := by
  show (match intsOf ds with | some l => some (true, PyData.list ((sortI l).map PyData.int)) | none => if sdok ds then some (true, PyData.list (ds.mergeSort (W.dataLe false fun d => d))) else none) = _
  rw [hi, h]; rfl
theorem n_sortedNil : evBI .sorted [.list []] = some (true, .list []) := Eq.trans rfl (Eq.refl _)
/-- sorted of what may be sorted, in some order -/
theorem n_sortedP {ds : List PyData} (h : sdok ds = true) (hi : ∀ d ∈ ds, d.isInt = false) : ∃ es, evBI .sorted [.list ds] = some (true, .list es) ∧ es.Perm ds := by
  cases ds with
  | nil => exact ⟨[], n_sortedNil, .nil⟩
  | cons d ds =>
    have hn : intsOf (d :: ds) = none := by
      have := hi d List.mem_cons_self
      cases d <;> first | rfl | cases this
    exact ⟨_, n_sorted hn h, List.mergeSort_perm _ _⟩
end PV
namespace PV
theorem lenOk_9 : lenOk 9 = true := rfl
theorem lenOk_10 : lenOk 10 = true := rfl
theorem lenOk_11 : lenOk 11 = true := rfl
theorem lenOk_12 : lenOk 12 = true := rfl
end PV

set_option Elab.async false
set_option linter.all false
set_option maxRecDepth 100000
set_option maxHeartbeats 4000000
set_option autoImplicit true
set_option relaxedAutoImplicit true
/-! PVQ: the evaluator's equations, as rules for simp. -/
namespace PV
open PySem L2
def asI : PyData → Option Int
  | .int i => some i
  | _ => none
theorem asI_N (n : Nat) : asI (N n) = some (n : Int) := Eq.trans rfl (Eq.refl _)
theorem asI_i (i : Int) : asI (.int i) = some i := Eq.trans rfl (Eq.refl _)
def blk (n : Nat) (b : Ss) : Sl → Option Out := fun ρ => evSs n b ρ
def tst (c : E) : Sl → Option Bool := fun ρ => evT c ρ
theorem wh_true {c : Sl → Option Bool} {f : Sl → Option Out} {n : Nat} {ρ ρ2 : Sl} (h1 : c ρ = some true) (h2 : f ρ = some (.nx ρ2)) : whileGo c f (n + 1) ρ = whileGo c f n ρ2 := by rw [whileGo, h1, h2]
theorem wh_rt {c : Sl → Option Bool} {f : Sl → Option Out} {n : Nat} {ρ : Sl} {r : R} (h1 : c ρ = some true) (h2 : f ρ = some (.rt r)) : whileGo c f (n + 1) ρ = some (.rt r) := by rw [whileGo, h1, h2]
theorem wh_false {c : Sl → Option Bool} {f : Sl → Option Out} {n : Nat} {ρ : Sl} (h1 : c ρ = some false) : whileGo c f (n + 1) ρ = some (.nx ρ) := by rw [whileGo, h1]
theorem fr_nil {g : G} {f : Sl → Option Out} {ρ : Sl} : forGo g f [] ρ = some (.nx ρ) := Eq.trans rfl (Eq.refl _)
theorem fr_nx {g : G} {f : Sl → Option Out} {d : PyData} {ds : List PyData} {ρ ρ1 ρ2 : Sl} (h1 : asg g d ρ = some ρ1) (h2 : f ρ1 = some (.nx ρ2)) : forGo g f (d :: ds) ρ = forGo g f ds ρ2 := by rw [forGo, h1]; show (match f ρ1 with | some (.nx ρ2) => forGo g f ds ρ2 | some (.ct ρ2) => forGo g f ds ρ2 | some (.bk ρ2) => some (.nx ρ2) | some (.rt r) => some (.rt r) | none => none) = _; rw [h2]
theorem fr_rt {g : G} {f : Sl → Option Out} {d : PyData} {ds : List PyData} {ρ ρ1 : Sl} {r : R} (h1 : asg g d ρ = some ρ1) (h2 : f ρ1 = some (.rt r)) : forGo g f (d :: ds) ρ = some (.rt r) := by rw [forGo, h1]; show (match f ρ1 with | some (.nx ρ2) => forGo g f ds ρ2 | some (.ct ρ2) => forGo g f ds ρ2 | some (.bk ρ2) => some (.nx ρ2) | some (.rt r) => some (.rt r) | none => none) = _; rw [h2]
theorem q_bind {α β : Type} {a : α} {f : α → Option β} : (some a).bind f = f a := Eq.trans rfl (Eq.refl _)
theorem q_bindn {α β : Type} {f : α → Option β} : (none : Option α).bind f = none := Eq.trans rfl (Eq.refl _)
theorem q_map {α β : Type} {a : α} {f : α → β} : (some a).map f = some (f a) := Eq.trans rfl (Eq.refl _)
theorem q_mapn {α β : Type} {f : α → β} : (none : Option α).map f = none := Eq.trans rfl (Eq.refl _)
theorem q_one : PyData.int 1 = N 1 := Eq.trans rfl (Eq.refl _)
theorem q_zero : PyData.int 0 = N 0 := Eq.trans rfl (Eq.refl _)
theorem q_evT : evT e ρ = (evE e true ρ).bind fun r => (match r.2 with
  | .bool k => some k
  | _ => none) := Eq.trans rfl (Eq.refl _)
theorem q_own : own ρ i = (match ρ[i]? with
  | some (some (true, .list ds)) => some ds
  | _ => none) := Eq.trans rfl (Eq.refl _)
theorem q_ret : evRet (.v i) ρ = (match ρ[i]? with
  | some (some r) => lessR r
  | _ => none) := Eq.trans rfl (Eq.refl _)
theorem q_less1 : lessR (true, .list ds) = some (true, .list ds) := Eq.trans rfl (Eq.refl _)
theorem q_less2 : lessR (false, x) = some (false, x) := Eq.trans rfl (Eq.refl _)
theorem q_less3 : lessR (true, .tuple ds) = some (true, .list ds) := Eq.trans rfl (Eq.refl _)
theorem q_slot : slot ρ i = (match ρ[i]? with
  | some (some r) => some r
  | _ => none) := Eq.trans rfl (Eq.refl _)
theorem q_rows : rowsOf (true, .tuple ds) = some ds := Eq.trans rfl (Eq.refl _)
theorem q_dict : dictOf (true, .dict ((.none, .bool t) :: kvs)) = some (t, kvs) := Eq.trans rfl (Eq.refl _)
theorem q_asInt : asInt (.int j) = some j := Eq.trans rfl (Eq.refl _)
theorem q_listIt : listIt (.list ds) = some ds := Eq.trans rfl (Eq.refl _)
theorem q_rowR : rowR (true, .list ds) = some (some (.list ds)) := Eq.trans rfl (Eq.refl _)
theorem q_wipeR_1 : wipeR ρ ([]) = (ρ) := Eq.trans rfl (Eq.refl _)
theorem q_wipeR_2 : wipeR ρ (v :: vs) = ((wipeR ρ vs).set v none) := Eq.trans rfl (Eq.refl _)
theorem q_asg_1 : asg (.nm i) (d) (ρ) = (some (ρ.set i (some (false, d)))) := Eq.trans rfl (Eq.refl _)
theorem q_asg_2 : asg (.two a b) (.tuple [x, y]) (ρ) = ((asg a x ρ).bind fun ρ1 => asg b y ρ1) := Eq.trans rfl (Eq.refl _)
theorem q_asg_3 : asg (.thr a b c) (.tuple [x, y, z]) (ρ) = ((asg a x ρ).bind fun ρ1 => (asg b y ρ1).bind fun ρ2 => asg c z ρ2) := Eq.trans rfl (Eq.refl _)
theorem q_asg_4 : asg (.fou a b c d) (.tuple [x, y, z, u]) (ρ) = ((asg a x ρ).bind fun ρ1 => (asg b y ρ1).bind fun ρ2 => (asg c z ρ2).bind fun ρ3 => asg d u ρ3) := Eq.trans rfl (Eq.refl _)
theorem q_asg_5 : asg (.two a b) (.list [x, y]) (ρ) = ((asg a x ρ).bind fun ρ1 => asg b y ρ1) := Eq.trans rfl (Eq.refl _)
theorem q_asg_6 : asg (.thr a b c) (.list [x, y, z]) (ρ) = ((asg a x ρ).bind fun ρ1 => (asg b y ρ1).bind fun ρ2 => asg c z ρ2) := Eq.trans rfl (Eq.refl _)
theorem q_asg_7 : asg (.fou a b c d) (.list [x, y, z, u]) (ρ) = ((asg a x ρ).bind fun ρ1 => (asg b y ρ1).bind fun ρ2 => (asg c z ρ2).bind fun ρ3 => asg d u ρ3) := Eq.trans rfl (Eq.refl _)
theorem q_asgR_1 : asgR (.nm i) (r) (ρ) = (some (ρ.set i (some r))) := Eq.trans rfl (Eq.refl _)
theorem q_ownedArg_1 : ownedArg ρ (.v i) = (match ρ[i]? with
      | some (some (true, _)) => true
      | _ => false) := Eq.trans rfl (Eq.refl _)
theorem q_ownedArgs_1 : ownedArgs ρ (.nil) = (false) := Eq.trans rfl (Eq.refl _)
theorem q_ownedArgs_2 : ownedArgs ρ (.cons e es) = (ownedArg ρ e || ownedArgs ρ es) := Eq.trans rfl (Eq.refl _)
theorem q_itemsOf_1 : itemsOf (.list ds) = (some ds) := Eq.trans rfl (Eq.refl _)
theorem q_itemsOf_2 : itemsOf (.tuple ds) = (some ds) := Eq.trans rfl (Eq.refl _)
theorem q_evE_1 : evE (.v i) (b) (ρ) = (match ρ[i]? with
      | some (some (false, d)) => some (false, d)
      | some (some (true, .list ds)) => if b then some (false, .list ds) else none
      | _ => none) := Eq.trans rfl (Eq.refl _)
theorem q_evE_2 : evE (.c d) (u0) (u1) = (some (false, d)) := Eq.trans rfl (Eq.refl _)
theorem q_evE_3 : evE (.bin o x y) (u0) (ρ) = ((evE x true ρ).bind fun r => (evE y true ρ).bind fun s => evBin o r.2 s.2) := Eq.trans rfl (Eq.refl _)
theorem q_evE_4 : evE (.neg x) (u0) (ρ) = ((evE x true ρ).bind fun r => evNeg r.2) := Eq.trans rfl (Eq.refl _)
theorem q_evE_5 : evE (.cmp o x y) (u0) (ρ) = ((evE x true ρ).bind fun r => (evE y true ρ).bind fun s => (evCmp o r.2 s.2).map fun k => (false, .bool k)) := Eq.trans rfl (Eq.refl _)
theorem q_evE_6 : evE (.chain o p x y z) (u0) (ρ) = ((evE x true ρ).bind fun r => (evE y true ρ).bind fun s => (evCmp o r.2 s.2).bind fun k => match k with
      | false => some (false, .bool false)
      | true => (evE z true ρ).bind fun t => (evCmp p s.2 t.2).map fun k => (false, .bool k)) := Eq.trans rfl (Eq.refl _)
theorem q_evE_7 : evE (.and x y) (b) (ρ) = ((evE x true ρ).bind fun r => match r.2 with
      | .bool true => evE y b ρ
      | .bool false => some (false, .bool false)
      | _ => none) := Eq.trans rfl (Eq.refl _)
theorem q_evE_8 : evE (.or x y) (b) (ρ) = ((evE x true ρ).bind fun r => match r.2 with
      | .bool false => evE y b ρ
      | .bool true => some (false, .bool true)
      | _ => none) := Eq.trans rfl (Eq.refl _)
theorem q_evE_9 : evE (.not x) (u0) (ρ) = ((evE x true ρ).bind fun r => match r.2 with
      | .bool k => some (false, .bool (!k))
      | _ => none) := Eq.trans rfl (Eq.refl _)
theorem q_evE_10 : evE (.ite c x y) (b) (ρ) = ((evE c true ρ).bind fun r => match r.2 with
      | .bool true => evE x b ρ
      | .bool false => evE y b ρ
      | _ => none) := Eq.trans rfl (Eq.refl _)
theorem q_evE_11 : evE (.tup es) (u0) (ρ) = ((evEs es false ρ).bind fun ds => if lenOk ds.length then some (false, .tuple ds) else none) := Eq.trans rfl (Eq.refl _)
theorem q_evE_12 : evE (.lst es) (u0) (ρ) = ((evEs es false ρ).bind fun ds => if lenOk ds.length then some (true, .list ds) else none) := Eq.trans rfl (Eq.refl _)
theorem q_evE_13 : evE (.ix x i) (u0) (ρ) = ((evE x true ρ).bind fun r => (evE i true ρ).bind fun s => evIx r.2 s.2) := Eq.trans rfl (Eq.refl _)
theorem q_evE_14 : evE (.sl x lo hi) (u0) (ρ) = ((evE x true ρ).bind fun r => (evP lo ρ).bind fun l => (evP hi ρ).bind fun h => evSl r.2 l h) := Eq.trans rfl (Eq.refl _)
theorem q_evE_15 : evE (.rev x) (u0) (ρ) = ((evE x true ρ).bind fun r => match r.2 with
      | .list ds => some (true, .list ds.reverse)
      | .tuple ds => some (false, .tuple ds.reverse)
      | _ => none) := Eq.trans rfl (Eq.refl _)
theorem q_evE_16 : evE (.rngl es) (u0) (ρ) = ((evEs es true ρ).bind fun ds => (evRng ds).map fun l => (true, .list l)) := Eq.trans rfl (Eq.refl _)
theorem q_evE_17 : evE (.call f es) (u0) (ρ) = (if ownedArgs ρ es then (evEs es true ρ).bind fun ds => (f ds).bind fun r => if nolistR r then some r else none else (evEs es false ρ).bind f) := Eq.trans rfl (Eq.refl _)
theorem q_evE_18 : evE (.bi b es) (u0) (ρ) = ((evEs es true ρ).bind fun ds => evBI b ds) := Eq.trans rfl (Eq.refl _)
theorem q_evE_19 : evE (.comp ow g it c elt) (u0) (ρ) = ((evI it true ρ).bind fun ds => (compGo (fun d => (asg g d (wipeR ρ ow)).bind fun ρ2 => (evC c ρ2).bind fun k => match k with
        | false => some none
        | true => (evE elt false ρ2).map fun r => some r.2) ds).map fun ys => (true, .list ys)) := Eq.trans rfl (Eq.refl _)
theorem q_evE_20 : evE (.comp2 ow g it c own1 g1 it1 c1 elt) (u0) (ρ) = ((evI it true ρ).bind fun ds => (compGo2 (fun d => (asg g d (wipeR ρ ow)).bind fun ρ2 => (evC c ρ2).bind fun k => match k with
        | false => some []
        | true => (evI it1 true ρ2).bind fun ds1 => compGo (fun d1 => (asg g1 d1 (wipeR ρ2 own1)).bind fun ρ3 => (evC c1 ρ3).bind fun k => match k with
          | false => some none
          | true => (evE elt false ρ3).map fun r => some r.2) ds1) ds).bind fun ys => if lenOk ys.length then some (true, .list ys) else none) := Eq.trans rfl (Eq.refl _)
theorem q_evE_21 : evE (.ix2 i a b) (u0) (ρ) = ((slot ρ i).bind fun q => (rowsOf q).bind fun rows => (evE a true ρ).bind fun r => (asInt r.2).bind fun j => (evE b true ρ).bind fun s => (L2.atI rows j).bind fun row => evIx row s.2) := Eq.trans rfl (Eq.refl _)
theorem q_evE_22 : evE (.mget i a) (u0) (ρ) = ((slot ρ i).bind fun q => (dictOf q).bind fun tk => (evE a true ρ).bind fun r => if keyOk tk.1 r.2 then (findK tk.2 r.2).map fun d => (false, d) else none) := Eq.trans rfl (Eq.refl _)
theorem q_evE_23 : evE (.min i a) (u0) (ρ) = ((evE a true ρ).bind fun r => (slot ρ i).bind fun q => (dictOf q).bind fun tk => if keyOk tk.1 r.2 then some (false, .bool (findK tk.2 r.2).isSome) else none) := Eq.trans rfl (Eq.refl _)
theorem q_evE_24 : evE (.mnot i a) (u0) (ρ) = ((evE a true ρ).bind fun r => (slot ρ i).bind fun q => (dictOf q).bind fun tk => if keyOk tk.1 r.2 then some (false, .bool (!(findK tk.2 r.2).isSome)) else none) := Eq.trans rfl (Eq.refl _)
theorem q_evE_25 : evE (.callT fs ix es) (u0) (ρ) = ((evE ix true ρ).bind fun r => (asInt r.2).bind fun j => (L2.atI fs j).bind fun f => (evEs es false ρ).bind f) := Eq.trans rfl (Eq.refl _)
theorem q_evEs_1 : evEs (.nil) (u0) (u1) = (some []) := Eq.trans rfl (Eq.refl _)
theorem q_evEs_2 : evEs (.cons e es) (b) (ρ) = ((evE e b ρ).bind fun r => (evEs es b ρ).map fun ds => r.2 :: ds) := Eq.trans rfl (Eq.refl _)
theorem q_evP_1 : evP (.no) (u0) = (some none) := Eq.trans rfl (Eq.refl _)
theorem q_evP_2 : evP (.yes e) (ρ) = ((evE e true ρ).bind fun r => (asI r.2).bind fun i => (some (some i))) := by
  rw [evP]
  congr 1
  funext r
  obtain ⟨b, d⟩ := r
  cases d <;> rfl
theorem q_evC_1 : evC (.no) (u0) = (some true) := Eq.trans rfl (Eq.refl _)
theorem q_evC_2 : evC (.yes e) (ρ) = ((evE e true ρ).bind fun r => match r.2 with
      | .bool k => some k
      | _ => none) := Eq.trans rfl (Eq.refl _)
theorem q_evI_1 : evI (.rng es) (u0) (ρ) = ((evEs es true ρ).bind evRng) := Eq.trans rfl (Eq.refl _)
theorem q_evI_2 : evI (.seq e) (b) (ρ) = ((evE e b ρ).bind fun r => itemsOf r.2) := Eq.trans rfl (Eq.refl _)
theorem q_evRet_1 : evRet (.v i) (ρ) = (match ρ[i]? with
      | some (some r) => lessR r
      | _ => none) := Eq.trans rfl (Eq.refl _)
theorem q_evS_1 : evS n (.asg g e) (ρ) = ((evE e false ρ).bind fun r => (asgR g r ρ).map .nx) := Eq.trans rfl (Eq.refl _)
theorem q_evS_2 : evS n (.asgs i e) (ρ) = ((evE e false ρ).map fun r => .nx (ρ.set i (some (false, r.2)))) := Eq.trans rfl (Eq.refl _)
theorem q_evS_3 : evS n (.par i j a b) (ρ) = ((evE a false ρ).bind fun r => (evE b false ρ).map fun s => .nx ((ρ.set i (some r)).set j (some s))) := Eq.trans rfl (Eq.refl _)
theorem q_evS_4 : evS n (.par3 i j l a b d) (ρ) = ((evE a false ρ).bind fun r => (evE b false ρ).bind fun s => (evE d false ρ).map fun t => .nx (((ρ.set i (some r)).set j (some s)).set l (some t))) := Eq.trans rfl (Eq.refl _)
theorem q_evS_5 : evS n (.app i e) (ρ) = ((own ρ i).bind fun ds => (evE e false ρ).bind fun r => if lenOk (ds.length + 1) then some (.nx (ρ.set i (some (true, .list (ds ++ [r.2]))))) else none) := Eq.trans rfl (Eq.refl _)
theorem q_evS_6 : evS n (.ext i e) (ρ) = ((own ρ i).bind fun ds => (evE e false ρ).bind fun r => match r.2 with
      | .list es => if lenOk (ds.length + es.length) then some (.nx (ρ.set i (some (true, .list (ds ++ es))))) else none
      | .tuple es => if lenOk (ds.length + es.length) then some (.nx (ρ.set i (some (true, .list (ds ++ es))))) else none
      | _ => none) := Eq.trans rfl (Eq.refl _)
theorem q_evS_7 : evS n (.ins i a e) (ρ) = ((own ρ i).bind fun ds => (evE a true ρ).bind fun k => (evE e false ρ).bind fun r => (asI k.2).bind fun j => (if decide (0 ≤ j) && decide (j < 1000000000) && lenOk (ds.length + 1) then some (.nx (ρ.set i (some (true, .list (ds.take j.toNat ++ [r.2] ++ ds.drop j.toNat))))) else none)) := by
  rw [evS]
  congr 1
  funext ds
  congr 1
  funext k
  congr 1
  funext r
  obtain ⟨b, d⟩ := k
  cases d <;> rfl
theorem q_evS_8 : evS n (.put i a e) (ρ) = ((evE e false ρ).bind fun r => (own ρ i).bind fun ds => (evE a true ρ).bind fun k => (asI k.2).bind fun j => ((putD ds j r.2).map fun ds' => .nx (ρ.set i (some (true, .list ds'))))) := by
  rw [evS]
  congr 1
  funext r
  congr 1
  funext ds
  congr 1
  funext k
  obtain ⟨b, d⟩ := k
  cases d <;> rfl
theorem q_evS_9 : evS n (.pop g i) (ρ) = ((own ρ i).bind fun ds => match ds.getLast? with
      | none => none
      | some d => (asg g d (ρ.set i (some (true, .list ds.dropLast)))).map .nx) := Eq.trans rfl (Eq.refl _)
theorem q_evS_10 : evS n (.ret e) (ρ) = ((evRet e ρ).map .rt) := Eq.trans rfl (Eq.refl _)
theorem q_evS_11 : evS n (.retN) (u0) = (some (.rt (false, .none))) := Eq.trans rfl (Eq.refl _)
theorem q_evS_12 : evS n (.ite c a b) (ρ) = ((evT c ρ).bind fun k => match k with
      | true => evSs n a ρ
      | false => evSs n b ρ) := Eq.trans rfl (Eq.refl _)
theorem q_evS_13 : evS n (.for_ g it b) (ρ) = ((evI it false ρ).bind fun ds => forGo g (blk n b) ds ρ) := Eq.trans rfl (Eq.refl _)
theorem q_evS_14 : evS n (.while_ c b) (ρ) = (whileGo (tst c) (blk n b) n ρ) := Eq.trans rfl (Eq.refl _)
theorem q_evS_15 : evS n (.share i) (ρ) = (match ρ[i]? with
      | some (some (true, .list ds)) => some (.nx (ρ.set i (some (false, .list ds))))
      | some (some (true, .tuple rows)) => some (.nx (ρ.set i (some (false, .list rows))))
      | some (some (true, .dict _)) => some (.nx (ρ.set i none))
      | some (some (true, _)) => none
      | _ => some (.nx ρ)) := Eq.trans rfl (Eq.refl _)
theorem q_evS_16 : evS n (.newD i ow g it elt) (ρ) = ((evI it true ρ).bind fun ds => (compGo (fun d => (asg g d (wipeR ρ ow)).bind fun ρ2 => (evE elt false ρ2).bind rowR) ds).map fun rows => .nx (ρ.set i (some (true, .tuple rows)))) := Eq.trans rfl (Eq.refl _)
theorem q_evS_17 : evS n (.put2 i a b e) (ρ) = ((evE e false ρ).bind fun r => (slot ρ i).bind fun q => (rowsOf q).bind fun rows => (evE a true ρ).bind fun x => (asInt x.2).bind fun j => (L2.ixN rows.length j).bind fun m => (evE b true ρ).bind fun y => (asInt y.2).bind fun l => (rows[m]?).bind fun row => (listIt row).bind fun ds => (putD ds l r.2).map fun ds' =>
        .nx (ρ.set i (some (true, .tuple (rows.set m (.list ds')))))) := Eq.trans rfl (Eq.refl _)
theorem q_evS_18 : evS n (.app2 i a e) (ρ) = ((slot ρ i).bind fun q => (rowsOf q).bind fun rows => (evE a true ρ).bind fun x => (asInt x.2).bind fun j => (L2.ixN rows.length j).bind fun m => (rows[m]?).bind fun row => (listIt row).bind fun ds => (evE e false ρ).bind fun r => if lenOk (ds.length + 1) then some (.nx (ρ.set i (some (true, .tuple (rows.set m (.list (ds ++ [r.2]))))))) else none) := Eq.trans rfl (Eq.refl _)
theorem q_evS_19 : evS n (.newM i t) (ρ) = (some (.nx (ρ.set i (some (true, .dict [(.none, .bool t)]))))) := Eq.trans rfl (Eq.refl _)
theorem q_evS_20 : evS n (.putM i a e) (ρ) = ((evE e false ρ).bind fun r => (slot ρ i).bind fun q => (dictOf q).bind fun tk => (evE a false ρ).bind fun k => if keyOk tk.1 k.2 && lenOk (tk.2.length + 1) then some (.nx (ρ.set i (some (true, .dict ((.none, .bool tk.1) :: putKv tk.2 k.2 r.2))))) else none) := Eq.trans rfl (Eq.refl _)
theorem q_evS_21 : evS n (.never) (u0) = (none) := Eq.trans rfl (Eq.refl _)
theorem q_evSs_1 : evSs n (.nil) (ρ) = (some (.nx ρ)) := Eq.trans rfl (Eq.refl _)
theorem q_evSs_2 : evSs n (.cons s ss) (ρ) = (match evS n s ρ with
      | some (.nx ρ2) => evSs n ss ρ2
      | o => o) := Eq.trans rfl (Eq.refl _)
theorem q_oa_0 : ownedArg ρ (.c d) = false := Eq.trans rfl (Eq.refl _)
theorem q_rt_0 : evRet (.c d) ρ = evE (.c d) false ρ := Eq.trans rfl (Eq.refl _)
theorem q_oa_1 : ownedArg ρ (.bin o x y) = false := Eq.trans rfl (Eq.refl _)
theorem q_rt_1 : evRet (.bin o x y) ρ = evE (.bin o x y) false ρ := Eq.trans rfl (Eq.refl _)
theorem q_oa_2 : ownedArg ρ (.neg x) = false := Eq.trans rfl (Eq.refl _)
theorem q_rt_2 : evRet (.neg x) ρ = evE (.neg x) false ρ := Eq.trans rfl (Eq.refl _)
theorem q_oa_3 : ownedArg ρ (.cmp o x y) = false := Eq.trans rfl (Eq.refl _)
theorem q_rt_3 : evRet (.cmp o x y) ρ = evE (.cmp o x y) false ρ := Eq.trans rfl (Eq.refl _)
theorem q_oa_4 : ownedArg ρ (.chain o p x y z) = false := Eq.trans rfl (Eq.refl _)
theorem q_rt_4 : evRet (.chain o p x y z) ρ = evE (.chain o p x y z) false ρ := Eq.trans rfl (Eq.refl _)
theorem q_oa_5 : ownedArg ρ (.and x y) = false := Eq.trans rfl (Eq.refl _)
theorem q_rt_5 : evRet (.and x y) ρ = evE (.and x y) false ρ := Eq.trans rfl (Eq.refl _)
theorem q_oa_6 : ownedArg ρ (.or x y) = false := Eq.trans rfl (Eq.refl _)
theorem q_rt_6 : evRet (.or x y) ρ = evE (.or x y) false ρ := Eq.trans rfl (Eq.refl _)
theorem q_oa_7 : ownedArg ρ (.not x) = false := Eq.trans rfl (Eq.refl _)
theorem q_rt_7 : evRet (.not x) ρ = evE (.not x) false ρ := Eq.trans rfl (Eq.refl _)
theorem q_oa_8 : ownedArg ρ (.ite x y z) = false := Eq.trans rfl (Eq.refl _)
theorem q_rt_8 : evRet (.ite x y z) ρ = evE (.ite x y z) false ρ := Eq.trans rfl (Eq.refl _)
theorem q_oa_9 : ownedArg ρ (.tup es) = false := Eq.trans rfl (Eq.refl _)
theorem q_rt_9 : evRet (.tup es) ρ = evE (.tup es) false ρ := Eq.trans rfl (Eq.refl _)
theorem q_oa_10 : ownedArg ρ (.lst es) = false := Eq.trans rfl (Eq.refl _)
theorem q_rt_10 : evRet (.lst es) ρ = evE (.lst es) false ρ := Eq.trans rfl (Eq.refl _)
theorem q_oa_11 : ownedArg ρ (.ix x y) = false := Eq.trans rfl (Eq.refl _)
theorem q_rt_11 : evRet (.ix x y) ρ = evE (.ix x y) false ρ := Eq.trans rfl (Eq.refl _)
theorem q_oa_12 : ownedArg ρ (.sl x l h) = false := Eq.trans rfl (Eq.refl _)
theorem q_rt_12 : evRet (.sl x l h) ρ = evE (.sl x l h) false ρ := Eq.trans rfl (Eq.refl _)
theorem q_oa_13 : ownedArg ρ (.rev x) = false := Eq.trans rfl (Eq.refl _)
theorem q_rt_13 : evRet (.rev x) ρ = evE (.rev x) false ρ := Eq.trans rfl (Eq.refl _)
theorem q_oa_14 : ownedArg ρ (.rngl es) = false := Eq.trans rfl (Eq.refl _)
theorem q_rt_14 : evRet (.rngl es) ρ = evE (.rngl es) false ρ := Eq.trans rfl (Eq.refl _)
theorem q_oa_15 : ownedArg ρ (.call f es) = false := Eq.trans rfl (Eq.refl _)
theorem q_rt_15 : evRet (.call f es) ρ = evE (.call f es) false ρ := Eq.trans rfl (Eq.refl _)
theorem q_oa_16 : ownedArg ρ (.bi b es) = false := Eq.trans rfl (Eq.refl _)
theorem q_rt_16 : evRet (.bi b es) ρ = evE (.bi b es) false ρ := Eq.trans rfl (Eq.refl _)
theorem q_oa_17 : ownedArg ρ (.comp ow g it c x) = false := Eq.trans rfl (Eq.refl _)
theorem q_rt_17 : evRet (.comp ow g it c x) ρ = evE (.comp ow g it c x) false ρ := Eq.trans rfl (Eq.refl _)
theorem q_oa_18 : ownedArg ρ (.comp2 ow g it c ow1 g1 it1 c1 x) = false := Eq.trans rfl (Eq.refl _)
theorem q_rt_18 : evRet (.comp2 ow g it c ow1 g1 it1 c1 x) ρ = evE (.comp2 ow g it c ow1 g1 it1 c1 x) false ρ := Eq.trans rfl (Eq.refl _)
theorem q_oa_19 : ownedArg ρ (.ix2 i a b) = false := Eq.trans rfl (Eq.refl _)
theorem q_rt_19 : evRet (.ix2 i a b) ρ = evE (.ix2 i a b) false ρ := Eq.trans rfl (Eq.refl _)
theorem q_oa_20 : ownedArg ρ (.mget i a) = false := Eq.trans rfl (Eq.refl _)
theorem q_rt_20 : evRet (.mget i a) ρ = evE (.mget i a) false ρ := Eq.trans rfl (Eq.refl _)
theorem q_oa_21 : ownedArg ρ (.min i a) = false := Eq.trans rfl (Eq.refl _)
theorem q_rt_21 : evRet (.min i a) ρ = evE (.min i a) false ρ := Eq.trans rfl (Eq.refl _)
theorem q_oa_22 : ownedArg ρ (.mnot i a) = false := Eq.trans rfl (Eq.refl _)
theorem q_rt_22 : evRet (.mnot i a) ρ = evE (.mnot i a) false ρ := Eq.trans rfl (Eq.refl _)
theorem q_oa_23 : ownedArg ρ (.callT fs a es) = false := Eq.trans rfl (Eq.refl _)
theorem q_rt_23 : evRet (.callT fs a es) ρ = evE (.callT fs a es) false ρ := Eq.trans rfl (Eq.refl _)
theorem q_ar_0 : asgR (.two a b) r ρ = asg (.two a b) r.2 ρ := Eq.trans rfl (Eq.refl _)
theorem q_ar_1 : asgR (.thr a b c) r ρ = asg (.thr a b c) r.2 ρ := Eq.trans rfl (Eq.refl _)
theorem q_ar_2 : asgR (.fou a b c d) r ρ = asg (.fou a b c d) r.2 ρ := Eq.trans rfl (Eq.refl _)
end PV

set_option Elab.async false
set_option linter.all false
set_option maxRecDepth 100000
set_option maxHeartbeats 4000000
/-! PVD: the draws that every law begins with. -/
namespace PV
open PySem L2
def ib_draws_1 : Ss :=
  (.cons (.ite (.cmp .gt (.v 4) (.c (.int 0))) (.cons (.app 2 (.bin .mod (.v 4) (.c (.int 1000003))))
  (.cons (.asgs 4 (.bin .fdiv (.v 4) (.c (.int 1000003))))
  .nil)) .nil)
  .nil)
def ib_draws_2 : Ss :=
  (.cons (.asgs 6 (.bin .mod (.bin .add (.bin .add (.bin .add (.bin .mul (.v 6) (.c (.int 69621))) (.bin .fdiv (.v 6) (.c (.int 65536)))) (.bin .mul (.c (.int 13)) (.v 5))) (.c (.int 5))) (.c (.int 2147483629))))
  (.cons (.app 2 (.bin .mod (.bin .fdiv (.v 6) (.c (.int 8))) (.c (.int 1000003))))
  .nil))
def ib_draws_3 : Ss :=
  (.cons (.asgs 4 (.bi .abs (.cons (.bi .int (.cons (.v 3) .nil)) .nil)))
  (.cons (.ite (.cmp .ge (.v 4) (.bin .pow (.c (.int 10)) (.c (.int 18)))) (.cons (.for_ (.nm 5) (.rng (.cons (.c (.int 60)) .nil)) ib_draws_1)
  .nil) (.cons (.asgs 6 (.bin .mod (.bin .add (.bin .add (.bin .mul (.v 4) (.c (.int 48271))) (.bin .mul (.c (.int 7)) (.bi .len (.cons (.v 2) .nil)))) (.c (.int 11))) (.c (.int 2147483647))))
  (.cons (.for_ (.nm 5) (.rng (.cons (.c (.int 4)) .nil)) ib_draws_2)
  .nil)))
  .nil))
def ib_draws_4 : Ss :=
  (.cons (.ite (.cmp .lt (.bi .len (.cons (.v 2) .nil)) (.v 1)) (.cons (.asgs 7 (.c (.int 0)))
  (.cons (.ite (.cmp .gt (.bi .len (.cons (.v 2) .nil)) (.c (.int 0))) (.cons (.asgs 7 (.ix (.v 2) (.bin .mod (.v 5) (.bi .len (.cons (.v 2) .nil)))))
  .nil) .nil)
  (.cons (.app 2 (.bin .mod (.bin .add (.bin .add (.bin .mul (.v 7) (.c (.int 16807))) (.bin .mul (.c (.int 31)) (.bi .len (.cons (.v 2) .nil)))) (.c (.int 17))) (.c (.int 1000003))))
  .nil))) .nil)
  .nil)
def ir_draws : Ss :=
  (.cons (.asg (.nm 2) (.lst .nil))
  (.cons (.for_ (.nm 3) (.seq (.sl (.v 0) .no (.yes (.c (.int 63))))) ib_draws_3)
  (.cons (.for_ (.nm 5) (.rng (.cons (.v 1) .nil)) ib_draws_4)
  (.cons (.ret (.sl (.v 2) .no (.yes (.v 1))))
  .nil))))
def f_draws : Fn := evDef FUEL 2 8 ir_draws
theorem d_18 : PyData.int 18 = N 18 := Eq.trans rfl (Eq.refl _)
theorem d_60 : PyData.int 60 = N 60 := Eq.trans rfl (Eq.refl _)
theorem d_1000003 : PyData.int 1000003 = N 1000003 := Eq.trans rfl (Eq.refl _)
theorem d_48271 : PyData.int 48271 = N 48271 := Eq.trans rfl (Eq.refl _)
theorem d_2147483647 : PyData.int 2147483647 = N 2147483647 := Eq.trans rfl (Eq.refl _)
theorem d_69621 : PyData.int 69621 = N 69621 := Eq.trans rfl (Eq.refl _)
theorem d_65536 : PyData.int 65536 = N 65536 := Eq.trans rfl (Eq.refl _)
theorem d_2147483629 : PyData.int 2147483629 = N 2147483629 := Eq.trans rfl (Eq.refl _)
theorem d_16807 : PyData.int 16807 = N 16807 := Eq.trans rfl (Eq.refl _)
theorem d_31 : PyData.int 31 = N 31 := Eq.trans rfl (Eq.refl _)
theorem d_17 : PyData.int 17 = N 17 := Eq.trans rfl (Eq.refl _)
theorem d_63 : PyData.int 63 = N 63 := Eq.trans rfl (Eq.refl _)

theorem n_pow {a b : Nat} (ha : a < 2 ^ 64) (hb : b ≤ 1000000) : evBin .pow (N a) (N b) = some (false, N (a ^ b)) := by
  have hm : powOk (a : Int) (b : Int) = true := by
    unfold powOk
    simp only [Int.natAbs_natCast, Nat.blt_eq, Bool.and_eq_true, decide_eq_true_eq]
    omega
  show (if powOk (a : Int) (b : Int) then some (false, PyData.int ((a : Int) ^ (b : Int).toNat)) else none) = some (false, PyData.int ((a ^ b : Nat) : Int))
  rw [if_pos hm, Int.toNat_natCast, Int.natCast_pow]
theorem n_abs (z : Int) : evBI .abs [.int z] = some (false, N z.natAbs) := by
  show some (false, PyData.int (if z < 0 then -z else z)) = some (false, PyData.int ((z.natAbs : Nat) : Int))
  congr 3
  split <;> omega
theorem n_int (z : Int) : evBI .int [.int z] = some (false, .int z) := Eq.trans rfl (Eq.refl _)
theorem cut_take (xs : List PyData) (k : Nat) : cutD xs none (some (k : Int)) = xs.take k := by
  unfold cutD
  rw [HT.sIx_none, HT.sIx_nat, List.drop_zero, Nat.sub_zero]
  rcases Nat.le_total k xs.length with h | h
  · rw [Nat.min_eq_left h]
  · rw [Nat.min_eq_right h, List.take_length, List.take_of_length_le h]
theorem n_slh (xs : List PyData) (k : Nat) : evSl (.list xs) none (some (k : Int)) = some (true, .list (xs.take k)) := by
  show some (true, PyData.list (cutD xs none (some (k : Int)))) = _
  rw [cut_take]
/-- all below -/
def Dr (l : List Nat) : Prop := ∀ x ∈ l, x < 1000003
theorem Dr.snoc {l : List Nat} {x : Nat} (h : Dr l) (hx : x < 1000003) : Dr (l ++ [x]) := fun y hy => by
  rcases List.mem_append.mp hy with hy | hy
  · exact h y hy
  · rw [List.mem_singleton.mp hy]; exact hx
abbrev sL (l : List Nat) : Option R := some (true, .list (l.map N))
theorem dr_1 {s0 s1 s3 s5 s6 s7 : Option R} {l : List Nat} {num : Nat} (hl : l.length ≤ 1000000) : ∃ l' num', blk FUEL ib_draws_1 [s0, s1, sL l, s3, sN num, s5, s6, s7] = some (.nx [s0, s1, sL l', s3, sN num', s5, s6, s7]) ∧ (Dr l → Dr l') ∧ l'.length ≤ l.length + 1 := by
  unfold blk ib_draws_1
  by_cases h : 0 < num
  · refine ⟨l ++ [num % 1000003], num / 1000003, ?_, fun h => h.snoc (Nat.mod_lt _ (by decide)), by simp⟩
    simp only [q_wipeR_1, q_wipeR_2, q_asg_1, q_asg_2, q_asg_3, q_asg_4, q_asgR_1, q_ownedArg_1, q_ownedArgs_1, q_ownedArgs_2, q_itemsOf_1, q_itemsOf_2, q_evE_1, q_evE_2, q_evE_3, q_evE_4, q_evE_5, q_evE_6, q_evE_7, q_evE_8, q_evE_9, q_evE_10, q_evE_11, q_evE_12, q_evE_13, q_evE_14, q_evE_15, q_evE_16, q_evE_17, q_evE_18, q_evE_19, q_evEs_1, q_evEs_2, q_evP_1, q_evP_2, q_evC_1, q_evC_2, q_evI_1, q_evI_2, q_evRet_1, q_evS_1, q_evS_2, q_evS_3, q_evS_4, q_evS_5, q_evS_6, q_evS_7, q_evS_8, q_evS_9, q_evS_10, q_evS_11, q_evS_12, q_evS_13, q_evS_14, q_evS_15, q_evS_16, q_evSs_1, q_evSs_2, q_oa_0, q_rt_0, q_oa_1, q_rt_1, q_oa_2, q_rt_2, q_oa_3, q_rt_3, q_oa_4, q_rt_4, q_oa_5, q_rt_5, q_oa_6, q_rt_6, q_oa_7, q_rt_7, q_oa_8, q_rt_8, q_oa_9, q_rt_9, q_oa_10, q_rt_10, q_oa_11, q_rt_11, q_oa_12, q_rt_12, q_oa_13, q_rt_13, q_oa_14, q_rt_14, q_oa_15, q_rt_15, q_oa_16, q_rt_16, q_oa_17, q_rt_17, q_ar_0, q_ar_1, q_ar_2, asI_N, asI_i, q_l2, q_l3, q_l4, q_l5, q_l6, q_l7, q_l8, q_l9, q_l10, q_l11, q_l12, q_l13, q_ret, q_bind, q_bindn, q_map, q_mapn, q_one, q_zero, q_evT, q_own, evNeg, startR, List.getElem?_cons_succ, List.getElem?_cons_zero, List.set_cons_succ, List.set_cons_zero, List.map_cons, List.map_nil, List.replicate, List.length_cons, List.length_nil, List.append_eq, List.nil_append, List.cons_append, Bool.and_true, Bool.true_and, Bool.and_false, Bool.false_and, Bool.not_true, Bool.not_false, if_true, if_false, reduceCtorEq, Nat.reduceSub, Nat.reduceAdd, Nat.reduceLeDiff, Bool.false_eq_true, Bool.or_false, Bool.false_or, ite_true, ite_false, n_add, lenOk_0, lenOk_1, lenOk_2, lenOk_3, lenOk_4, lenOk_5, lenOk_6, lenOk_7, lenOk_8, d_18, d_60, d_1000003, d_48271, d_2147483647, d_69621, d_65536, d_2147483629, d_16807, d_31, d_17, d_63, n_gt, h, decide_true, n_mod (show 0 < 1000003 by decide)]
    rw [if_pos (lenOk_of (by rw [List.length_map]; omega))]
    simp only [q_wipeR_1, q_wipeR_2, q_asg_1, q_asg_2, q_asg_3, q_asg_4, q_asgR_1, q_ownedArg_1, q_ownedArgs_1, q_ownedArgs_2, q_itemsOf_1, q_itemsOf_2, q_evE_1, q_evE_2, q_evE_3, q_evE_4, q_evE_5, q_evE_6, q_evE_7, q_evE_8, q_evE_9, q_evE_10, q_evE_11, q_evE_12, q_evE_13, q_evE_14, q_evE_15, q_evE_16, q_evE_17, q_evE_18, q_evE_19, q_evEs_1, q_evEs_2, q_evP_1, q_evP_2, q_evC_1, q_evC_2, q_evI_1, q_evI_2, q_evRet_1, q_evS_1, q_evS_2, q_evS_3, q_evS_4, q_evS_5, q_evS_6, q_evS_7, q_evS_8, q_evS_9, q_evS_10, q_evS_11, q_evS_12, q_evS_13, q_evS_14, q_evS_15, q_evS_16, q_evSs_1, q_evSs_2, q_oa_0, q_rt_0, q_oa_1, q_rt_1, q_oa_2, q_rt_2, q_oa_3, q_rt_3, q_oa_4, q_rt_4, q_oa_5, q_rt_5, q_oa_6, q_rt_6, q_oa_7, q_rt_7, q_oa_8, q_rt_8, q_oa_9, q_rt_9, q_oa_10, q_rt_10, q_oa_11, q_rt_11, q_oa_12, q_rt_12, q_oa_13, q_rt_13, q_oa_14, q_rt_14, q_oa_15, q_rt_15, q_oa_16, q_rt_16, q_oa_17, q_rt_17, q_ar_0, q_ar_1, q_ar_2, asI_N, asI_i, q_l2, q_l3, q_l4, q_l5, q_l6, q_l7, q_l8, q_l9, q_l10, q_l11, q_l12, q_l13, q_ret, q_bind, q_bindn, q_map, q_mapn, q_one, q_zero, q_evT, q_own, evNeg, startR, List.getElem?_cons_succ, List.getElem?_cons_zero, List.set_cons_succ, List.set_cons_zero, List.map_cons, List.map_nil, List.replicate, List.length_cons, List.length_nil, List.append_eq, List.nil_append, List.cons_append, Bool.and_true, Bool.true_and, Bool.and_false, Bool.false_and, Bool.not_true, Bool.not_false, if_true, if_false, reduceCtorEq, Nat.reduceSub, Nat.reduceAdd, Nat.reduceLeDiff, Bool.false_eq_true, Bool.or_false, Bool.false_or, ite_true, ite_false, n_add, lenOk_0, lenOk_1, lenOk_2, lenOk_3, lenOk_4, lenOk_5, lenOk_6, lenOk_7, lenOk_8, d_18, d_60, d_1000003, d_48271, d_2147483647, d_69621, d_65536, d_2147483629, d_16807, d_31, d_17, d_63, n_div (show 0 < 1000003 by decide) (show 1000003 < 2 ^ 64 by decide), List.map_append, sL]
  · refine ⟨l, num, ?_, fun h => h, by omega⟩
    simp only [q_wipeR_1, q_wipeR_2, q_asg_1, q_asg_2, q_asg_3, q_asg_4, q_asgR_1, q_ownedArg_1, q_ownedArgs_1, q_ownedArgs_2, q_itemsOf_1, q_itemsOf_2, q_evE_1, q_evE_2, q_evE_3, q_evE_4, q_evE_5, q_evE_6, q_evE_7, q_evE_8, q_evE_9, q_evE_10, q_evE_11, q_evE_12, q_evE_13, q_evE_14, q_evE_15, q_evE_16, q_evE_17, q_evE_18, q_evE_19, q_evEs_1, q_evEs_2, q_evP_1, q_evP_2, q_evC_1, q_evC_2, q_evI_1, q_evI_2, q_evRet_1, q_evS_1, q_evS_2, q_evS_3, q_evS_4, q_evS_5, q_evS_6, q_evS_7, q_evS_8, q_evS_9, q_evS_10, q_evS_11, q_evS_12, q_evS_13, q_evS_14, q_evS_15, q_evS_16, q_evSs_1, q_evSs_2, q_oa_0, q_rt_0, q_oa_1, q_rt_1, q_oa_2, q_rt_2, q_oa_3, q_rt_3, q_oa_4, q_rt_4, q_oa_5, q_rt_5, q_oa_6, q_rt_6, q_oa_7, q_rt_7, q_oa_8, q_rt_8, q_oa_9, q_rt_9, q_oa_10, q_rt_10, q_oa_11, q_rt_11, q_oa_12, q_rt_12, q_oa_13, q_rt_13, q_oa_14, q_rt_14, q_oa_15, q_rt_15, q_oa_16, q_rt_16, q_oa_17, q_rt_17, q_ar_0, q_ar_1, q_ar_2, asI_N, asI_i, q_l2, q_l3, q_l4, q_l5, q_l6, q_l7, q_l8, q_l9, q_l10, q_l11, q_l12, q_l13, q_ret, q_bind, q_bindn, q_map, q_mapn, q_one, q_zero, q_evT, q_own, evNeg, startR, List.getElem?_cons_succ, List.getElem?_cons_zero, List.set_cons_succ, List.set_cons_zero, List.map_cons, List.map_nil, List.replicate, List.length_cons, List.length_nil, List.append_eq, List.nil_append, List.cons_append, Bool.and_true, Bool.true_and, Bool.and_false, Bool.false_and, Bool.not_true, Bool.not_false, if_true, if_false, reduceCtorEq, Nat.reduceSub, Nat.reduceAdd, Nat.reduceLeDiff, Bool.false_eq_true, Bool.or_false, Bool.false_or, ite_true, ite_false, n_add, lenOk_0, lenOk_1, lenOk_2, lenOk_3, lenOk_4, lenOk_5, lenOk_6, lenOk_7, lenOk_8, d_18, d_60, d_1000003, d_48271, d_2147483647, d_69621, d_65536, d_2147483629, d_16807, d_31, d_17, d_63, n_gt, h, decide_false]
theorem dr_2 {s0 s1 s3 s4 s7 : Option R} {l : List Nat} {mixed k : Nat} (hl : l.length ≤ 1000000) (hk : k < 1000) (hm : mixed < 2 ^ 40) : ∃ l' mixed', blk FUEL ib_draws_2 [s0, s1, sL l, s3, s4, sN k, sN mixed, s7] = some (.nx [s0, s1, sL l', s3, s4, sN k, sN mixed', s7]) ∧ (Dr l → Dr l') ∧ l'.length ≤ l.length + 1 ∧ mixed' < 2 ^ 40 := by
  unfold blk ib_draws_2
  have hmm := Nat.mod_lt (mixed * 69621 + mixed / 65536 + 13 * k + 5) (show 0 < 2147483629 by decide)
  generalize hq : (mixed * 69621 + mixed / 65536 + 13 * k + 5) % 2147483629 = q at hmm
  refine ⟨l ++ [q / 8 % 1000003], q, ?_, fun h => h.snoc (Nat.mod_lt _ (by decide)), by simp, by omega⟩
  simp only [q_wipeR_1, q_wipeR_2, q_asg_1, q_asg_2, q_asg_3, q_asg_4, q_asgR_1, q_ownedArg_1, q_ownedArgs_1, q_ownedArgs_2, q_itemsOf_1, q_itemsOf_2, q_evE_1, q_evE_2, q_evE_3, q_evE_4, q_evE_5, q_evE_6, q_evE_7, q_evE_8, q_evE_9, q_evE_10, q_evE_11, q_evE_12, q_evE_13, q_evE_14, q_evE_15, q_evE_16, q_evE_17, q_evE_18, q_evE_19, q_evEs_1, q_evEs_2, q_evP_1, q_evP_2, q_evC_1, q_evC_2, q_evI_1, q_evI_2, q_evRet_1, q_evS_1, q_evS_2, q_evS_3, q_evS_4, q_evS_5, q_evS_6, q_evS_7, q_evS_8, q_evS_9, q_evS_10, q_evS_11, q_evS_12, q_evS_13, q_evS_14, q_evS_15, q_evS_16, q_evSs_1, q_evSs_2, q_oa_0, q_rt_0, q_oa_1, q_rt_1, q_oa_2, q_rt_2, q_oa_3, q_rt_3, q_oa_4, q_rt_4, q_oa_5, q_rt_5, q_oa_6, q_rt_6, q_oa_7, q_rt_7, q_oa_8, q_rt_8, q_oa_9, q_rt_9, q_oa_10, q_rt_10, q_oa_11, q_rt_11, q_oa_12, q_rt_12, q_oa_13, q_rt_13, q_oa_14, q_rt_14, q_oa_15, q_rt_15, q_oa_16, q_rt_16, q_oa_17, q_rt_17, q_ar_0, q_ar_1, q_ar_2, asI_N, asI_i, q_l2, q_l3, q_l4, q_l5, q_l6, q_l7, q_l8, q_l9, q_l10, q_l11, q_l12, q_l13, q_ret, q_bind, q_bindn, q_map, q_mapn, q_one, q_zero, q_evT, q_own, evNeg, startR, List.getElem?_cons_succ, List.getElem?_cons_zero, List.set_cons_succ, List.set_cons_zero, List.map_cons, List.map_nil, List.replicate, List.length_cons, List.length_nil, List.append_eq, List.nil_append, List.cons_append, Bool.and_true, Bool.true_and, Bool.and_false, Bool.false_and, Bool.not_true, Bool.not_false, if_true, if_false, reduceCtorEq, Nat.reduceSub, Nat.reduceAdd, Nat.reduceLeDiff, Bool.false_eq_true, Bool.or_false, Bool.false_or, ite_true, ite_false, n_add, lenOk_0, lenOk_1, lenOk_2, lenOk_3, lenOk_4, lenOk_5, lenOk_6, lenOk_7, lenOk_8, d_18, d_60, d_1000003, d_48271, d_2147483647, d_69621, d_65536, d_2147483629, d_16807, d_31, d_17, d_63, n_mul (show mixed < 2 ^ 64 by omega) (show 69621 < 2 ^ 64 by decide), n_div (show 0 < 65536 by decide) (show 65536 < 2 ^ 64 by decide), n_mul (show 13 < 2 ^ 64 by decide) (show k < 2 ^ 64 by omega), n_mod (show 0 < 2147483629 by decide), hq, n_div (show 0 < 8 by decide) (show 8 < 2 ^ 64 by decide), n_mod (show 0 < 1000003 by decide)]
  rw [if_pos (lenOk_of (by rw [List.length_map]; omega))]
  simp only [q_wipeR_1, q_wipeR_2, q_asg_1, q_asg_2, q_asg_3, q_asg_4, q_asgR_1, q_ownedArg_1, q_ownedArgs_1, q_ownedArgs_2, q_itemsOf_1, q_itemsOf_2, q_evE_1, q_evE_2, q_evE_3, q_evE_4, q_evE_5, q_evE_6, q_evE_7, q_evE_8, q_evE_9, q_evE_10, q_evE_11, q_evE_12, q_evE_13, q_evE_14, q_evE_15, q_evE_16, q_evE_17, q_evE_18, q_evE_19, q_evEs_1, q_evEs_2, q_evP_1, q_evP_2, q_evC_1, q_evC_2, q_evI_1, q_evI_2, q_evRet_1, q_evS_1, q_evS_2, q_evS_3, q_evS_4, q_evS_5, q_evS_6, q_evS_7, q_evS_8, q_evS_9, q_evS_10, q_evS_11, q_evS_12, q_evS_13, q_evS_14, q_evS_15, q_evS_16, q_evSs_1, q_evSs_2, q_oa_0, q_rt_0, q_oa_1, q_rt_1, q_oa_2, q_rt_2, q_oa_3, q_rt_3, q_oa_4, q_rt_4, q_oa_5, q_rt_5, q_oa_6, q_rt_6, q_oa_7, q_rt_7, q_oa_8, q_rt_8, q_oa_9, q_rt_9, q_oa_10, q_rt_10, q_oa_11, q_rt_11, q_oa_12, q_rt_12, q_oa_13, q_rt_13, q_oa_14, q_rt_14, q_oa_15, q_rt_15, q_oa_16, q_rt_16, q_oa_17, q_rt_17, q_ar_0, q_ar_1, q_ar_2, asI_N, asI_i, q_l2, q_l3, q_l4, q_l5, q_l6, q_l7, q_l8, q_l9, q_l10, q_l11, q_l12, q_l13, q_ret, q_bind, q_bindn, q_map, q_mapn, q_one, q_zero, q_evT, q_own, evNeg, startR, List.getElem?_cons_succ, List.getElem?_cons_zero, List.set_cons_succ, List.set_cons_zero, List.map_cons, List.map_nil, List.replicate, List.length_cons, List.length_nil, List.append_eq, List.nil_append, List.cons_append, Bool.and_true, Bool.true_and, Bool.and_false, Bool.false_and, Bool.not_true, Bool.not_false, if_true, if_false, reduceCtorEq, Nat.reduceSub, Nat.reduceAdd, Nat.reduceLeDiff, Bool.false_eq_true, Bool.or_false, Bool.false_or, ite_true, ite_false, n_add, lenOk_0, lenOk_1, lenOk_2, lenOk_3, lenOk_4, lenOk_5, lenOk_6, lenOk_7, lenOk_8, List.map_append, sL]
theorem dr_3 {s0 s1 j4 j5 j6 s7 : Option R} {l : List Nat} {z : Int} (hl : l.length ≤ 100000) : ∃ l' k4 k5 k6, blk FUEL ib_draws_3 [s0, s1, sL l, some (false, .int z), j4, j5, j6, s7] = some (.nx [s0, s1, sL l', some (false, .int z), k4, k5, k6, s7]) ∧ (Dr l → Dr l') ∧ l'.length ≤ l.length + 60 := by
  unfold blk ib_draws_3
  simp only [q_wipeR_1, q_wipeR_2, q_asg_1, q_asg_2, q_asg_3, q_asg_4, q_asgR_1, q_ownedArg_1, q_ownedArgs_1, q_ownedArgs_2, q_itemsOf_1, q_itemsOf_2, q_evE_1, q_evE_2, q_evE_3, q_evE_4, q_evE_5, q_evE_6, q_evE_7, q_evE_8, q_evE_9, q_evE_10, q_evE_11, q_evE_12, q_evE_13, q_evE_14, q_evE_15, q_evE_16, q_evE_17, q_evE_18, q_evE_19, q_evEs_1, q_evEs_2, q_evP_1, q_evP_2, q_evC_1, q_evC_2, q_evI_1, q_evI_2, q_evRet_1, q_evS_1, q_evS_2, q_evS_3, q_evS_4, q_evS_5, q_evS_6, q_evS_7, q_evS_8, q_evS_9, q_evS_10, q_evS_11, q_evS_12, q_evS_13, q_evS_14, q_evS_15, q_evS_16, q_evSs_1, q_evSs_2, q_oa_0, q_rt_0, q_oa_1, q_rt_1, q_oa_2, q_rt_2, q_oa_3, q_rt_3, q_oa_4, q_rt_4, q_oa_5, q_rt_5, q_oa_6, q_rt_6, q_oa_7, q_rt_7, q_oa_8, q_rt_8, q_oa_9, q_rt_9, q_oa_10, q_rt_10, q_oa_11, q_rt_11, q_oa_12, q_rt_12, q_oa_13, q_rt_13, q_oa_14, q_rt_14, q_oa_15, q_rt_15, q_oa_16, q_rt_16, q_oa_17, q_rt_17, q_ar_0, q_ar_1, q_ar_2, asI_N, asI_i, q_l2, q_l3, q_l4, q_l5, q_l6, q_l7, q_l8, q_l9, q_l10, q_l11, q_l12, q_l13, q_ret, q_bind, q_bindn, q_map, q_mapn, q_one, q_zero, q_evT, q_own, evNeg, startR, List.getElem?_cons_succ, List.getElem?_cons_zero, List.set_cons_succ, List.set_cons_zero, List.map_cons, List.map_nil, List.replicate, List.length_cons, List.length_nil, List.append_eq, List.nil_append, List.cons_append, Bool.and_true, Bool.true_and, Bool.and_false, Bool.false_and, Bool.not_true, Bool.not_false, if_true, if_false, reduceCtorEq, Nat.reduceSub, Nat.reduceAdd, Nat.reduceLeDiff, Bool.false_eq_true, Bool.or_false, Bool.false_or, ite_true, ite_false, n_add, lenOk_0, lenOk_1, lenOk_2, lenOk_3, lenOk_4, lenOk_5, lenOk_6, lenOk_7, lenOk_8, d_18, d_60, d_1000003, d_48271, d_2147483647, d_69621, d_65536, d_2147483629, d_16807, d_31, d_17, d_63, n_int, n_abs, n_pow (show 10 < 2 ^ 64 by decide) (show 18 ≤ 1000000 by decide), n_ge]
  by_cases h : 10 ^ 18 ≤ z.natAbs
  · simp only [q_wipeR_1, q_wipeR_2, q_asg_1, q_asg_2, q_asg_3, q_asg_4, q_asgR_1, q_ownedArg_1, q_ownedArgs_1, q_ownedArgs_2, q_itemsOf_1, q_itemsOf_2, q_evE_1, q_evE_2, q_evE_3, q_evE_4, q_evE_5, q_evE_6, q_evE_7, q_evE_8, q_evE_9, q_evE_10, q_evE_11, q_evE_12, q_evE_13, q_evE_14, q_evE_15, q_evE_16, q_evE_17, q_evE_18, q_evE_19, q_evEs_1, q_evEs_2, q_evP_1, q_evP_2, q_evC_1, q_evC_2, q_evI_1, q_evI_2, q_evRet_1, q_evS_1, q_evS_2, q_evS_3, q_evS_4, q_evS_5, q_evS_6, q_evS_7, q_evS_8, q_evS_9, q_evS_10, q_evS_11, q_evS_12, q_evS_13, q_evS_14, q_evS_15, q_evS_16, q_evSs_1, q_evSs_2, q_oa_0, q_rt_0, q_oa_1, q_rt_1, q_oa_2, q_rt_2, q_oa_3, q_rt_3, q_oa_4, q_rt_4, q_oa_5, q_rt_5, q_oa_6, q_rt_6, q_oa_7, q_rt_7, q_oa_8, q_rt_8, q_oa_9, q_rt_9, q_oa_10, q_rt_10, q_oa_11, q_rt_11, q_oa_12, q_rt_12, q_oa_13, q_rt_13, q_oa_14, q_rt_14, q_oa_15, q_rt_15, q_oa_16, q_rt_16, q_oa_17, q_rt_17, q_ar_0, q_ar_1, q_ar_2, asI_N, asI_i, q_l2, q_l3, q_l4, q_l5, q_l6, q_l7, q_l8, q_l9, q_l10, q_l11, q_l12, q_l13, q_ret, q_bind, q_bindn, q_map, q_mapn, q_one, q_zero, q_evT, q_own, evNeg, startR, List.getElem?_cons_succ, List.getElem?_cons_zero, List.set_cons_succ, List.set_cons_zero, List.map_cons, List.map_nil, List.replicate, List.length_cons, List.length_nil, List.append_eq, List.nil_append, List.cons_append, Bool.and_true, Bool.true_and, Bool.and_false, Bool.false_and, Bool.not_true, Bool.not_false, if_true, if_false, reduceCtorEq, Nat.reduceSub, Nat.reduceAdd, Nat.reduceLeDiff, Bool.false_eq_true, Bool.or_false, Bool.false_or, ite_true, ite_false, n_add, lenOk_0, lenOk_1, lenOk_2, lenOk_3, lenOk_4, lenOk_5, lenOk_6, lenOk_7, lenOk_8, d_18, d_60, d_1000003, d_48271, d_2147483647, d_69621, d_65536, d_2147483629, d_16807, d_31, d_17, d_63, h, decide_true, n_rng1 (show 60 ≤ 1000000 by decide)]
    obtain ⟨ρ', e, l', num', k5, rfl, hd, hn⟩ := forGo_do (g := .nm 5) (f := blk FUEL ib_draws_1) N (fun pre ρ => ∃ l' num' k5, ρ = [s0, s1, sL l', some (false, .int z), sN num', k5, j6, s7] ∧ (Dr l → Dr l') ∧ l'.length ≤ l.length + pre.length) (l := List.range 60) (ρ := [s0, s1, sL l, some (false, .int z), sN z.natAbs, j5, j6, s7]) ⟨l, z.natAbs, j5, rfl, fun h => h, by simp⟩ (by
      rintro pre x suf ρ hs ⟨l1, n1, k1, rfl, hd, hn⟩
      have hp : pre.length ≤ 60 := by
        have := congrArg List.length hs
        rw [List.length_range, List.length_append] at this
        omega
      obtain ⟨l2, n2, e, hd2, hn2⟩ := dr_1 (s0 := s0) (s1 := s1) (s3 := some (false, .int z)) (s5 := sN x) (s6 := j6) (s7 := s7) (l := l1) (num := n1) (by omega)
      exact ⟨_, _, rfl, e, l2, n2, sN x, rfl, fun h => hd2 (hd h), by rw [List.length_append]; simp only [List.length_cons, List.length_nil]; omega⟩)
    rw [e]
    exact ⟨l', sN num', k5, j6, rfl, hd, by rw [List.length_range] at hn; exact hn⟩
  · have h2 : z.natAbs < 10 ^ 18 := Nat.lt_of_not_le h
    have h3 : z.natAbs < 2 ^ 64 := Nat.lt_trans h2 (by decide)
    have hmm := Nat.mod_lt (z.natAbs * 48271 + 7 * (l.map N).length + 11) (show 0 < 2147483647 by decide)
    simp only [q_wipeR_1, q_wipeR_2, q_asg_1, q_asg_2, q_asg_3, q_asg_4, q_asgR_1, q_ownedArg_1, q_ownedArgs_1, q_ownedArgs_2, q_itemsOf_1, q_itemsOf_2, q_evE_1, q_evE_2, q_evE_3, q_evE_4, q_evE_5, q_evE_6, q_evE_7, q_evE_8, q_evE_9, q_evE_10, q_evE_11, q_evE_12, q_evE_13, q_evE_14, q_evE_15, q_evE_16, q_evE_17, q_evE_18, q_evE_19, q_evEs_1, q_evEs_2, q_evP_1, q_evP_2, q_evC_1, q_evC_2, q_evI_1, q_evI_2, q_evRet_1, q_evS_1, q_evS_2, q_evS_3, q_evS_4, q_evS_5, q_evS_6, q_evS_7, q_evS_8, q_evS_9, q_evS_10, q_evS_11, q_evS_12, q_evS_13, q_evS_14, q_evS_15, q_evS_16, q_evSs_1, q_evSs_2, q_oa_0, q_rt_0, q_oa_1, q_rt_1, q_oa_2, q_rt_2, q_oa_3, q_rt_3, q_oa_4, q_rt_4, q_oa_5, q_rt_5, q_oa_6, q_rt_6, q_oa_7, q_rt_7, q_oa_8, q_rt_8, q_oa_9, q_rt_9, q_oa_10, q_rt_10, q_oa_11, q_rt_11, q_oa_12, q_rt_12, q_oa_13, q_rt_13, q_oa_14, q_rt_14, q_oa_15, q_rt_15, q_oa_16, q_rt_16, q_oa_17, q_rt_17, q_ar_0, q_ar_1, q_ar_2, asI_N, asI_i, q_l2, q_l3, q_l4, q_l5, q_l6, q_l7, q_l8, q_l9, q_l10, q_l11, q_l12, q_l13, q_ret, q_bind, q_bindn, q_map, q_mapn, q_one, q_zero, q_evT, q_own, evNeg, startR, List.getElem?_cons_succ, List.getElem?_cons_zero, List.set_cons_succ, List.set_cons_zero, List.map_cons, List.map_nil, List.replicate, List.length_cons, List.length_nil, List.append_eq, List.nil_append, List.cons_append, Bool.and_true, Bool.true_and, Bool.and_false, Bool.false_and, Bool.not_true, Bool.not_false, if_true, if_false, reduceCtorEq, Nat.reduceSub, Nat.reduceAdd, Nat.reduceLeDiff, Bool.false_eq_true, Bool.or_false, Bool.false_or, ite_true, ite_false, n_add, lenOk_0, lenOk_1, lenOk_2, lenOk_3, lenOk_4, lenOk_5, lenOk_6, lenOk_7, lenOk_8, d_18, d_60, d_1000003, d_48271, d_2147483647, d_69621, d_65536, d_2147483629, d_16807, d_31, d_17, d_63, h, decide_false, n_mul h3 (show 48271 < 2 ^ 64 by decide), n_len, n_mul (show 7 < 2 ^ 64 by decide) (show (l.map N).length < 2 ^ 64 by rw [List.length_map]; omega), n_mod (show 0 < 2147483647 by decide), n_rng1 (show 4 ≤ 1000000 by decide)]
    generalize (z.natAbs * 48271 + 7 * (l.map N).length + 11) % 2147483647 = q at hmm
    obtain ⟨ρ', e, l', k5, m6, rfl, hd, hn, hq⟩ := forGo_do (g := .nm 5) (f := blk FUEL ib_draws_2) N (fun pre ρ => ∃ l' k5 m6, ρ = [s0, s1, sL l', some (false, .int z), sN z.natAbs, k5, sN m6, s7] ∧ (Dr l → Dr l') ∧ l'.length ≤ l.length + pre.length ∧ m6 < 2 ^ 40) (l := List.range 4) (ρ := [s0, s1, sL l, some (false, .int z), sN z.natAbs, j5, sN q, s7]) ⟨l, j5, q, rfl, fun h => h, by simp, by omega⟩ (by
      rintro pre x suf ρ hs ⟨l1, k1, m1, rfl, hd, hn, hm⟩
      have hx : x ∈ List.range 4 := by rw [hs]; simp
      rw [List.mem_range] at hx
      have hp : pre.length ≤ 4 := by
        have := congrArg List.length hs
        rw [List.length_range, List.length_append] at this
        omega
      obtain ⟨l2, m2, e, hd2, hn2, hm2⟩ := dr_2 (s0 := s0) (s1 := s1) (s3 := some (false, .int z)) (s4 := sN z.natAbs) (s7 := s7) (l := l1) (mixed := m1) (k := x) (by omega) (by omega) hm
      exact ⟨_, _, rfl, e, l2, sN x, m2, rfl, fun h => hd2 (hd h), by rw [List.length_append]; simp only [List.length_cons, List.length_nil]; omega, hm2⟩)
    rw [e]
    exact ⟨l', sN z.natAbs, k5, sN m6, rfl, hd, by rw [List.length_range] at hn; omega⟩
theorem dr_4 {s0 s3 s4 s6 j7 : Option R} {l : List Nat} {k many : Nat} (hl : l.length ≤ 100000) (hd : Dr l) : ∃ l' k7, blk FUEL ib_draws_4 [s0, sN many, sL l, s3, s4, sN k, s6, j7] = some (.nx [s0, sN many, sL l', s3, s4, sN k, s6, k7]) ∧ Dr l' ∧ l'.length ≤ l.length + 1 ∧ (l.length < many → l'.length = l.length + 1) ∧ (¬ l.length < many → l' = l) := by
  unfold blk ib_draws_4
  by_cases h : l.length < many
  · have app : ∀ base : Nat, Dr (l ++ [(base * 16807 + 31 * l.length + 17) % 1000003]) := fun base => hd.snoc (Nat.mod_lt _ (by decide))
    by_cases h0 : 0 < l.length
    · have hi : k % l.length < l.length := Nat.mod_lt _ h0
      have hx : (l.map N)[k % l.length]? = some (N l[k % l.length]) := by rw [List.getElem?_map, List.getElem?_eq_getElem hi]; rfl
      have hb : l[k % l.length] < 2 ^ 64 := Nat.lt_trans (hd _ (List.getElem_mem hi)) (by decide)
      refine ⟨l ++ [(l[k % l.length] * 16807 + 31 * l.length + 17) % 1000003], sN l[k % l.length], ?_, app _, by simp, fun _ => by simp, fun z => absurd h z⟩
      simp only [q_wipeR_1, q_wipeR_2, q_asg_1, q_asg_2, q_asg_3, q_asg_4, q_asgR_1, q_ownedArg_1, q_ownedArgs_1, q_ownedArgs_2, q_itemsOf_1, q_itemsOf_2, q_evE_1, q_evE_2, q_evE_3, q_evE_4, q_evE_5, q_evE_6, q_evE_7, q_evE_8, q_evE_9, q_evE_10, q_evE_11, q_evE_12, q_evE_13, q_evE_14, q_evE_15, q_evE_16, q_evE_17, q_evE_18, q_evE_19, q_evEs_1, q_evEs_2, q_evP_1, q_evP_2, q_evC_1, q_evC_2, q_evI_1, q_evI_2, q_evRet_1, q_evS_1, q_evS_2, q_evS_3, q_evS_4, q_evS_5, q_evS_6, q_evS_7, q_evS_8, q_evS_9, q_evS_10, q_evS_11, q_evS_12, q_evS_13, q_evS_14, q_evS_15, q_evS_16, q_evSs_1, q_evSs_2, q_oa_0, q_rt_0, q_oa_1, q_rt_1, q_oa_2, q_rt_2, q_oa_3, q_rt_3, q_oa_4, q_rt_4, q_oa_5, q_rt_5, q_oa_6, q_rt_6, q_oa_7, q_rt_7, q_oa_8, q_rt_8, q_oa_9, q_rt_9, q_oa_10, q_rt_10, q_oa_11, q_rt_11, q_oa_12, q_rt_12, q_oa_13, q_rt_13, q_oa_14, q_rt_14, q_oa_15, q_rt_15, q_oa_16, q_rt_16, q_oa_17, q_rt_17, q_ar_0, q_ar_1, q_ar_2, asI_N, asI_i, q_l2, q_l3, q_l4, q_l5, q_l6, q_l7, q_l8, q_l9, q_l10, q_l11, q_l12, q_l13, q_ret, q_bind, q_bindn, q_map, q_mapn, q_one, q_zero, q_evT, q_own, evNeg, startR, List.getElem?_cons_succ, List.getElem?_cons_zero, List.set_cons_succ, List.set_cons_zero, List.map_cons, List.map_nil, List.replicate, List.length_cons, List.length_nil, List.append_eq, List.nil_append, List.cons_append, Bool.and_true, Bool.true_and, Bool.and_false, Bool.false_and, Bool.not_true, Bool.not_false, if_true, if_false, reduceCtorEq, Nat.reduceSub, Nat.reduceAdd, Nat.reduceLeDiff, Bool.false_eq_true, Bool.or_false, Bool.false_or, ite_true, ite_false, n_add, lenOk_0, lenOk_1, lenOk_2, lenOk_3, lenOk_4, lenOk_5, lenOk_6, lenOk_7, lenOk_8, d_18, d_60, d_1000003, d_48271, d_2147483647, d_69621, d_65536, d_2147483629, d_16807, d_31, d_17, d_63, n_len, n_lt, h, h0, decide_true, n_gt, n_mod h0, List.length_map, n_ixl, hx, n_mul hb (show 16807 < 2 ^ 64 by decide), n_mul (show 31 < 2 ^ 64 by decide) (show l.length < 2 ^ 64 by omega), n_mod (show 0 < 1000003 by decide)]
      rw [if_pos (lenOk_of (by omega))]
      simp only [q_wipeR_1, q_wipeR_2, q_asg_1, q_asg_2, q_asg_3, q_asg_4, q_asgR_1, q_ownedArg_1, q_ownedArgs_1, q_ownedArgs_2, q_itemsOf_1, q_itemsOf_2, q_evE_1, q_evE_2, q_evE_3, q_evE_4, q_evE_5, q_evE_6, q_evE_7, q_evE_8, q_evE_9, q_evE_10, q_evE_11, q_evE_12, q_evE_13, q_evE_14, q_evE_15, q_evE_16, q_evE_17, q_evE_18, q_evE_19, q_evEs_1, q_evEs_2, q_evP_1, q_evP_2, q_evC_1, q_evC_2, q_evI_1, q_evI_2, q_evRet_1, q_evS_1, q_evS_2, q_evS_3, q_evS_4, q_evS_5, q_evS_6, q_evS_7, q_evS_8, q_evS_9, q_evS_10, q_evS_11, q_evS_12, q_evS_13, q_evS_14, q_evS_15, q_evS_16, q_evSs_1, q_evSs_2, q_oa_0, q_rt_0, q_oa_1, q_rt_1, q_oa_2, q_rt_2, q_oa_3, q_rt_3, q_oa_4, q_rt_4, q_oa_5, q_rt_5, q_oa_6, q_rt_6, q_oa_7, q_rt_7, q_oa_8, q_rt_8, q_oa_9, q_rt_9, q_oa_10, q_rt_10, q_oa_11, q_rt_11, q_oa_12, q_rt_12, q_oa_13, q_rt_13, q_oa_14, q_rt_14, q_oa_15, q_rt_15, q_oa_16, q_rt_16, q_oa_17, q_rt_17, q_ar_0, q_ar_1, q_ar_2, asI_N, asI_i, q_l2, q_l3, q_l4, q_l5, q_l6, q_l7, q_l8, q_l9, q_l10, q_l11, q_l12, q_l13, q_ret, q_bind, q_bindn, q_map, q_mapn, q_one, q_zero, q_evT, q_own, evNeg, startR, List.getElem?_cons_succ, List.getElem?_cons_zero, List.set_cons_succ, List.set_cons_zero, List.map_cons, List.map_nil, List.replicate, List.length_cons, List.length_nil, List.append_eq, List.nil_append, List.cons_append, Bool.and_true, Bool.true_and, Bool.and_false, Bool.false_and, Bool.not_true, Bool.not_false, if_true, if_false, reduceCtorEq, Nat.reduceSub, Nat.reduceAdd, Nat.reduceLeDiff, Bool.false_eq_true, Bool.or_false, Bool.false_or, ite_true, ite_false, n_add, lenOk_0, lenOk_1, lenOk_2, lenOk_3, lenOk_4, lenOk_5, lenOk_6, lenOk_7, lenOk_8, List.map_append, sL]
    · refine ⟨l ++ [(0 * 16807 + 31 * l.length + 17) % 1000003], sN 0, ?_, app _, by simp, fun _ => by simp, fun z => absurd h z⟩
      simp only [q_wipeR_1, q_wipeR_2, q_asg_1, q_asg_2, q_asg_3, q_asg_4, q_asgR_1, q_ownedArg_1, q_ownedArgs_1, q_ownedArgs_2, q_itemsOf_1, q_itemsOf_2, q_evE_1, q_evE_2, q_evE_3, q_evE_4, q_evE_5, q_evE_6, q_evE_7, q_evE_8, q_evE_9, q_evE_10, q_evE_11, q_evE_12, q_evE_13, q_evE_14, q_evE_15, q_evE_16, q_evE_17, q_evE_18, q_evE_19, q_evEs_1, q_evEs_2, q_evP_1, q_evP_2, q_evC_1, q_evC_2, q_evI_1, q_evI_2, q_evRet_1, q_evS_1, q_evS_2, q_evS_3, q_evS_4, q_evS_5, q_evS_6, q_evS_7, q_evS_8, q_evS_9, q_evS_10, q_evS_11, q_evS_12, q_evS_13, q_evS_14, q_evS_15, q_evS_16, q_evSs_1, q_evSs_2, q_oa_0, q_rt_0, q_oa_1, q_rt_1, q_oa_2, q_rt_2, q_oa_3, q_rt_3, q_oa_4, q_rt_4, q_oa_5, q_rt_5, q_oa_6, q_rt_6, q_oa_7, q_rt_7, q_oa_8, q_rt_8, q_oa_9, q_rt_9, q_oa_10, q_rt_10, q_oa_11, q_rt_11, q_oa_12, q_rt_12, q_oa_13, q_rt_13, q_oa_14, q_rt_14, q_oa_15, q_rt_15, q_oa_16, q_rt_16, q_oa_17, q_rt_17, q_ar_0, q_ar_1, q_ar_2, asI_N, asI_i, q_l2, q_l3, q_l4, q_l5, q_l6, q_l7, q_l8, q_l9, q_l10, q_l11, q_l12, q_l13, q_ret, q_bind, q_bindn, q_map, q_mapn, q_one, q_zero, q_evT, q_own, evNeg, startR, List.getElem?_cons_succ, List.getElem?_cons_zero, List.set_cons_succ, List.set_cons_zero, List.map_cons, List.map_nil, List.replicate, List.length_cons, List.length_nil, List.append_eq, List.nil_append, List.cons_append, Bool.and_true, Bool.true_and, Bool.and_false, Bool.false_and, Bool.not_true, Bool.not_false, if_true, if_false, reduceCtorEq, Nat.reduceSub, Nat.reduceAdd, Nat.reduceLeDiff, Bool.false_eq_true, Bool.or_false, Bool.false_or, ite_true, ite_false, n_add, lenOk_0, lenOk_1, lenOk_2, lenOk_3, lenOk_4, lenOk_5, lenOk_6, lenOk_7, lenOk_8, d_18, d_60, d_1000003, d_48271, d_2147483647, d_69621, d_65536, d_2147483629, d_16807, d_31, d_17, d_63, n_len, n_lt, h, h0, decide_true, decide_false, n_gt, List.length_map, n_mul (show 0 < 2 ^ 64 by decide) (show 16807 < 2 ^ 64 by decide), n_mul (show 31 < 2 ^ 64 by decide) (show l.length < 2 ^ 64 by omega), n_mod (show 0 < 1000003 by decide)]
      rw [if_pos (lenOk_of (by omega))]
      simp only [q_wipeR_1, q_wipeR_2, q_asg_1, q_asg_2, q_asg_3, q_asg_4, q_asgR_1, q_ownedArg_1, q_ownedArgs_1, q_ownedArgs_2, q_itemsOf_1, q_itemsOf_2, q_evE_1, q_evE_2, q_evE_3, q_evE_4, q_evE_5, q_evE_6, q_evE_7, q_evE_8, q_evE_9, q_evE_10, q_evE_11, q_evE_12, q_evE_13, q_evE_14, q_evE_15, q_evE_16, q_evE_17, q_evE_18, q_evE_19, q_evEs_1, q_evEs_2, q_evP_1, q_evP_2, q_evC_1, q_evC_2, q_evI_1, q_evI_2, q_evRet_1, q_evS_1, q_evS_2, q_evS_3, q_evS_4, q_evS_5, q_evS_6, q_evS_7, q_evS_8, q_evS_9, q_evS_10, q_evS_11, q_evS_12, q_evS_13, q_evS_14, q_evS_15, q_evS_16, q_evSs_1, q_evSs_2, q_oa_0, q_rt_0, q_oa_1, q_rt_1, q_oa_2, q_rt_2, q_oa_3, q_rt_3, q_oa_4, q_rt_4, q_oa_5, q_rt_5, q_oa_6, q_rt_6, q_oa_7, q_rt_7, q_oa_8, q_rt_8, q_oa_9, q_rt_9, q_oa_10, q_rt_10, q_oa_11, q_rt_11, q_oa_12, q_rt_12, q_oa_13, q_rt_13, q_oa_14, q_rt_14, q_oa_15, q_rt_15, q_oa_16, q_rt_16, q_oa_17, q_rt_17, q_ar_0, q_ar_1, q_ar_2, asI_N, asI_i, q_l2, q_l3, q_l4, q_l5, q_l6, q_l7, q_l8, q_l9, q_l10, q_l11, q_l12, q_l13, q_ret, q_bind, q_bindn, q_map, q_mapn, q_one, q_zero, q_evT, q_own, evNeg, startR, List.getElem?_cons_succ, List.getElem?_cons_zero, List.set_cons_succ, List.set_cons_zero, List.map_cons, List.map_nil, List.replicate, List.length_cons, List.length_nil, List.append_eq, List.nil_append, List.cons_append, Bool.and_true, Bool.true_and, Bool.and_false, Bool.false_and, Bool.not_true, Bool.not_false, if_true, if_false, reduceCtorEq, Nat.reduceSub, Nat.reduceAdd, Nat.reduceLeDiff, Bool.false_eq_true, Bool.or_false, Bool.false_or, ite_true, ite_false, n_add, lenOk_0, lenOk_1, lenOk_2, lenOk_3, lenOk_4, lenOk_5, lenOk_6, lenOk_7, lenOk_8, List.map_append, sL]
  · refine ⟨l, j7, ?_, hd, by omega, fun z => absurd z h, fun _ => rfl⟩
    simp only [q_wipeR_1, q_wipeR_2, q_asg_1, q_asg_2, q_asg_3, q_asg_4, q_asgR_1, q_ownedArg_1, q_ownedArgs_1, q_ownedArgs_2, q_itemsOf_1, q_itemsOf_2, q_evE_1, q_evE_2, q_evE_3, q_evE_4, q_evE_5, q_evE_6, q_evE_7, q_evE_8, q_evE_9, q_evE_10, q_evE_11, q_evE_12, q_evE_13, q_evE_14, q_evE_15, q_evE_16, q_evE_17, q_evE_18, q_evE_19, q_evEs_1, q_evEs_2, q_evP_1, q_evP_2, q_evC_1, q_evC_2, q_evI_1, q_evI_2, q_evRet_1, q_evS_1, q_evS_2, q_evS_3, q_evS_4, q_evS_5, q_evS_6, q_evS_7, q_evS_8, q_evS_9, q_evS_10, q_evS_11, q_evS_12, q_evS_13, q_evS_14, q_evS_15, q_evS_16, q_evSs_1, q_evSs_2, q_oa_0, q_rt_0, q_oa_1, q_rt_1, q_oa_2, q_rt_2, q_oa_3, q_rt_3, q_oa_4, q_rt_4, q_oa_5, q_rt_5, q_oa_6, q_rt_6, q_oa_7, q_rt_7, q_oa_8, q_rt_8, q_oa_9, q_rt_9, q_oa_10, q_rt_10, q_oa_11, q_rt_11, q_oa_12, q_rt_12, q_oa_13, q_rt_13, q_oa_14, q_rt_14, q_oa_15, q_rt_15, q_oa_16, q_rt_16, q_oa_17, q_rt_17, q_ar_0, q_ar_1, q_ar_2, asI_N, asI_i, q_l2, q_l3, q_l4, q_l5, q_l6, q_l7, q_l8, q_l9, q_l10, q_l11, q_l12, q_l13, q_ret, q_bind, q_bindn, q_map, q_mapn, q_one, q_zero, q_evT, q_own, evNeg, startR, List.getElem?_cons_succ, List.getElem?_cons_zero, List.set_cons_succ, List.set_cons_zero, List.map_cons, List.map_nil, List.replicate, List.length_cons, List.length_nil, List.append_eq, List.nil_append, List.cons_append, Bool.and_true, Bool.true_and, Bool.and_false, Bool.false_and, Bool.not_true, Bool.not_false, if_true, if_false, reduceCtorEq, Nat.reduceSub, Nat.reduceAdd, Nat.reduceLeDiff, Bool.false_eq_true, Bool.or_false, Bool.false_or, ite_true, ite_false, n_add, lenOk_0, lenOk_1, lenOk_2, lenOk_3, lenOk_4, lenOk_5, lenOk_6, lenOk_7, lenOk_8, d_18, d_60, d_1000003, d_48271, d_2147483647, d_69621, d_65536, d_2147483629, d_16807, d_31, d_17, d_63, n_len, n_lt, List.length_map, h, decide_false]
/-- THE DRAWS -/
theorem draws_is {ns : List Int} {many : Nat} (hn : ns.length ≤ 63) (hm : many ≤ 1000) : ∃ l : List Nat, f_draws [.list (ns.map .int), N many] = some (true, .list (l.map N)) ∧ l.length = many ∧ Dr l := by
  obtain ⟨ρ1, e1, l1, a3, a4, a5, a6, rfl, hd1, hn1⟩ := forGo_do (g := .nm 3) (f := blk FUEL ib_draws_3) PyData.int (fun pre ρ => ∃ l' k3 k4 k5 k6, ρ = [some (false, .list (ns.map .int)), sN many, sL l', k3, k4, k5, k6, none] ∧ Dr l' ∧ l'.length ≤ 60 * pre.length) (l := ns) (ρ := [some (false, .list (ns.map .int)), sN many, sL [], none, none, none, none, none]) ⟨[], none, none, none, none, rfl, (fun x hx => by cases hx), by simp⟩ (by
      rintro pre x suf ρ hs ⟨l1, k3, k4, k5, k6, rfl, hd, hl⟩
      have hp : pre.length ≤ 63 := by
        have := congrArg List.length hs
        rw [List.length_append] at this
        omega
      obtain ⟨l2, b4, b5, b6, e, hd2, hn2⟩ := dr_3 (s0 := some (false, .list (ns.map .int))) (s1 := sN many) (j4 := k4) (j5 := k5) (j6 := k6) (s7 := none) (l := l1) (z := x) (by omega)
      exact ⟨_, _, rfl, e, l2, some (false, .int x), b4, b5, b6, rfl, hd2 hd, by rw [List.length_append]; simp only [List.length_cons, List.length_nil]; omega⟩)
  obtain ⟨ρ2, e2, l2, b5, b7, rfl, hd2, hn2, hm2⟩ := forGo_do (g := .nm 5) (f := blk FUEL ib_draws_4) N (fun pre ρ => ∃ l' k5 k7, ρ = [some (false, .list (ns.map .int)), sN many, sL l', a3, a4, k5, a6, k7] ∧ Dr l' ∧ l'.length ≤ l1.length + pre.length ∧ pre.length ≤ l'.length) (l := List.range many) (ρ := [some (false, .list (ns.map .int)), sN many, sL l1, a3, a4, a5, a6, none]) ⟨l1, a5, none, rfl, hd1, by simp, by simp⟩ (by
      rintro pre x suf ρ hs ⟨l3, k5, k7, rfl, hd, hl, hg⟩
      have hp : pre.length < many := by
        have := congrArg List.length hs
        rw [List.length_range, List.length_append, List.length_cons] at this
        omega
      obtain ⟨l4, b7, e, hd2, hn2, h3, h4⟩ := dr_4 (s0 := some (false, .list (ns.map .int))) (s3 := a3) (s4 := a4) (s6 := a6) (j7 := k7) (l := l3) (k := x) (many := many) (by omega) hd
      refine ⟨_, _, rfl, e, l4, sN x, b7, rfl, hd2, by rw [List.length_append]; simp only [List.length_cons, List.length_nil]; omega, ?_⟩
      rw [List.length_append]
      simp only [List.length_cons, List.length_nil]
      by_cases hc : l3.length < many
      · have := h3 hc; omega
      · rw [h4 hc]; omega)
  rw [List.length_range] at hm2
  refine ⟨l2.take many, ?_, by rw [List.length_take]; omega, fun x hx => hd2 x (List.mem_of_mem_take hx)⟩
  have e63 : (ns.map PyData.int).take 63 = ns.map PyData.int := List.take_of_length_le (by rw [List.length_map]; exact hn)
  have es : evSl (.list (ns.map .int)) none (some 63) = some (true, .list (ns.map .int)) := (n_slh _ 63).trans (by rw [e63])
  have em : evSl (.list (l2.map N)) none (some (many : Int)) = some (true, .list ((l2.take many).map N)) := (n_slh _ many).trans (by rw [List.map_take])
  have e1' : forGo (.nm 3) (blk FUEL ib_draws_3) (ns.map .int) [some (false, .list (ns.map .int)), sN many, some (true, .list []), none, none, none, none, none] = _ := e1
  unfold f_draws evDef ir_draws
  simp only [q_wipeR_1, q_wipeR_2, q_asg_1, q_asg_2, q_asg_3, q_asg_4, q_asgR_1, q_ownedArg_1, q_ownedArgs_1, q_ownedArgs_2, q_itemsOf_1, q_itemsOf_2, q_evE_1, q_evE_2, q_evE_3, q_evE_4, q_evE_5, q_evE_6, q_evE_7, q_evE_8, q_evE_9, q_evE_10, q_evE_11, q_evE_12, q_evE_13, q_evE_14, q_evE_15, q_evE_16, q_evE_17, q_evE_18, q_evE_19, q_evEs_1, q_evEs_2, q_evP_1, q_evP_2, q_evC_1, q_evC_2, q_evI_1, q_evI_2, q_evRet_1, q_evS_1, q_evS_2, q_evS_3, q_evS_4, q_evS_5, q_evS_6, q_evS_7, q_evS_8, q_evS_9, q_evS_10, q_evS_11, q_evS_12, q_evS_13, q_evS_14, q_evS_15, q_evS_16, q_evSs_1, q_evSs_2, q_oa_0, q_rt_0, q_oa_1, q_rt_1, q_oa_2, q_rt_2, q_oa_3, q_rt_3, q_oa_4, q_rt_4, q_oa_5, q_rt_5, q_oa_6, q_rt_6, q_oa_7, q_rt_7, q_oa_8, q_rt_8, q_oa_9, q_rt_9, q_oa_10, q_rt_10, q_oa_11, q_rt_11, q_oa_12, q_rt_12, q_oa_13, q_rt_13, q_oa_14, q_rt_14, q_oa_15, q_rt_15, q_oa_16, q_rt_16, q_oa_17, q_rt_17, q_ar_0, q_ar_1, q_ar_2, asI_N, asI_i, q_l2, q_l3, q_l4, q_l5, q_l6, q_l7, q_l8, q_l9, q_l10, q_l11, q_l12, q_l13, q_ret, q_bind, q_bindn, q_map, q_mapn, q_one, q_zero, q_evT, q_own, evNeg, startR, List.getElem?_cons_succ, List.getElem?_cons_zero, List.set_cons_succ, List.set_cons_zero, List.map_cons, List.map_nil, List.replicate, List.length_cons, List.length_nil, List.append_eq, List.nil_append, List.cons_append, Bool.and_true, Bool.true_and, Bool.and_false, Bool.false_and, Bool.not_true, Bool.not_false, if_true, if_false, reduceCtorEq, Nat.reduceSub, Nat.reduceAdd, Nat.reduceLeDiff, Bool.false_eq_true, Bool.or_false, Bool.false_or, ite_true, ite_false, n_add, lenOk_0, lenOk_1, lenOk_2, lenOk_3, lenOk_4, lenOk_5, lenOk_6, lenOk_7, lenOk_8, es]
  rw [e1']
  simp only [q_wipeR_1, q_wipeR_2, q_asg_1, q_asg_2, q_asg_3, q_asg_4, q_asgR_1, q_ownedArg_1, q_ownedArgs_1, q_ownedArgs_2, q_itemsOf_1, q_itemsOf_2, q_evE_1, q_evE_2, q_evE_3, q_evE_4, q_evE_5, q_evE_6, q_evE_7, q_evE_8, q_evE_9, q_evE_10, q_evE_11, q_evE_12, q_evE_13, q_evE_14, q_evE_15, q_evE_16, q_evE_17, q_evE_18, q_evE_19, q_evEs_1, q_evEs_2, q_evP_1, q_evP_2, q_evC_1, q_evC_2, q_evI_1, q_evI_2, q_evRet_1, q_evS_1, q_evS_2, q_evS_3, q_evS_4, q_evS_5, q_evS_6, q_evS_7, q_evS_8, q_evS_9, q_evS_10, q_evS_11, q_evS_12, q_evS_13, q_evS_14, q_evS_15, q_evS_16, q_evSs_1, q_evSs_2, q_oa_0, q_rt_0, q_oa_1, q_rt_1, q_oa_2, q_rt_2, q_oa_3, q_rt_3, q_oa_4, q_rt_4, q_oa_5, q_rt_5, q_oa_6, q_rt_6, q_oa_7, q_rt_7, q_oa_8, q_rt_8, q_oa_9, q_rt_9, q_oa_10, q_rt_10, q_oa_11, q_rt_11, q_oa_12, q_rt_12, q_oa_13, q_rt_13, q_oa_14, q_rt_14, q_oa_15, q_rt_15, q_oa_16, q_rt_16, q_oa_17, q_rt_17, q_ar_0, q_ar_1, q_ar_2, asI_N, asI_i, q_l2, q_l3, q_l4, q_l5, q_l6, q_l7, q_l8, q_l9, q_l10, q_l11, q_l12, q_l13, q_ret, q_bind, q_bindn, q_map, q_mapn, q_one, q_zero, q_evT, q_own, evNeg, startR, List.getElem?_cons_succ, List.getElem?_cons_zero, List.set_cons_succ, List.set_cons_zero, List.map_cons, List.map_nil, List.replicate, List.length_cons, List.length_nil, List.append_eq, List.nil_append, List.cons_append, Bool.and_true, Bool.true_and, Bool.and_false, Bool.false_and, Bool.not_true, Bool.not_false, if_true, if_false, reduceCtorEq, Nat.reduceSub, Nat.reduceAdd, Nat.reduceLeDiff, Bool.false_eq_true, Bool.or_false, Bool.false_or, ite_true, ite_false, n_add, lenOk_0, lenOk_1, lenOk_2, lenOk_3, lenOk_4, lenOk_5, lenOk_6, lenOk_7, lenOk_8, n_rng1 (show many ≤ 1000000 by omega)]
  rw [e2]
  simp only [q_wipeR_1, q_wipeR_2, q_asg_1, q_asg_2, q_asg_3, q_asg_4, q_asgR_1, q_ownedArg_1, q_ownedArgs_1, q_ownedArgs_2, q_itemsOf_1, q_itemsOf_2, q_evE_1, q_evE_2, q_evE_3, q_evE_4, q_evE_5, q_evE_6, q_evE_7, q_evE_8, q_evE_9, q_evE_10, q_evE_11, q_evE_12, q_evE_13, q_evE_14, q_evE_15, q_evE_16, q_evE_17, q_evE_18, q_evE_19, q_evEs_1, q_evEs_2, q_evP_1, q_evP_2, q_evC_1, q_evC_2, q_evI_1, q_evI_2, q_evRet_1, q_evS_1, q_evS_2, q_evS_3, q_evS_4, q_evS_5, q_evS_6, q_evS_7, q_evS_8, q_evS_9, q_evS_10, q_evS_11, q_evS_12, q_evS_13, q_evS_14, q_evS_15, q_evS_16, q_evSs_1, q_evSs_2, q_oa_0, q_rt_0, q_oa_1, q_rt_1, q_oa_2, q_rt_2, q_oa_3, q_rt_3, q_oa_4, q_rt_4, q_oa_5, q_rt_5, q_oa_6, q_rt_6, q_oa_7, q_rt_7, q_oa_8, q_rt_8, q_oa_9, q_rt_9, q_oa_10, q_rt_10, q_oa_11, q_rt_11, q_oa_12, q_rt_12, q_oa_13, q_rt_13, q_oa_14, q_rt_14, q_oa_15, q_rt_15, q_oa_16, q_rt_16, q_oa_17, q_rt_17, q_ar_0, q_ar_1, q_ar_2, asI_N, asI_i, q_l2, q_l3, q_l4, q_l5, q_l6, q_l7, q_l8, q_l9, q_l10, q_l11, q_l12, q_l13, q_ret, q_bind, q_bindn, q_map, q_mapn, q_one, q_zero, q_evT, q_own, evNeg, startR, List.getElem?_cons_succ, List.getElem?_cons_zero, List.set_cons_succ, List.set_cons_zero, List.map_cons, List.map_nil, List.replicate, List.length_cons, List.length_nil, List.append_eq, List.nil_append, List.cons_append, Bool.and_true, Bool.true_and, Bool.and_false, Bool.false_and, Bool.not_true, Bool.not_false, if_true, if_false, reduceCtorEq, Nat.reduceSub, Nat.reduceAdd, Nat.reduceLeDiff, Bool.false_eq_true, Bool.or_false, Bool.false_or, ite_true, ite_false, n_add, lenOk_0, lenOk_1, lenOk_2, lenOk_3, lenOk_4, lenOk_5, lenOk_6, lenOk_7, lenOk_8, em]
end PV

set_option Elab.async false
set_option linter.all false
set_option maxRecDepth 100000
/-! Q1: the field of numbers a + b times the root of d, and its order. -/
namespace Qu
open Lean.Grind
structure Q (d : Nat) where
  a : Rat
  b : Rat
class NSq (d : Nat) : Prop where
  ns : ∀ a b : Rat, a * a = (d : Rat) * (b * b) → b = 0
variable {d : Nat}
theorem ext' {x y : Q d} (h1 : x.a = y.a) (h2 : x.b = y.b) : x = y := by
  cases x; cases y; cases h1; cases h2; rfl
theorem ext_iff' {x y : Q d} : x = y ↔ x.a = y.a ∧ x.b = y.b := ⟨fun h => by rw [h]; exact ⟨rfl, rfl⟩, fun h => ext' h.1 h.2⟩
namespace Q
protected def ofR (r : Rat) : Q d := ⟨r, 0⟩
protected def add (x y : Q d) : Q d := ⟨x.a + y.a, x.b + y.b⟩
protected def mul (x y : Q d) : Q d := ⟨x.a * y.a + (d : Rat) * (x.b * y.b), x.a * y.b + x.b * y.a⟩
protected def neg (x : Q d) : Q d := ⟨-x.a, -x.b⟩
protected def sub (x y : Q d) : Q d := ⟨x.a - y.a, x.b - y.b⟩
def nrm (x : Q d) : Rat := x.a * x.a - (d : Rat) * (x.b * x.b)
protected def inv (x : Q d) : Q d := ⟨x.a / x.nrm, -x.b / x.nrm⟩
def conj (x : Q d) : Q d := ⟨x.a, -x.b⟩
protected def npow (x : Q d) : Nat → Q d
  | 0 => ⟨1, 0⟩
  | n + 1 => Q.mul (Q.npow x n) x
protected def zpow (x : Q d) : Int → Q d
  | .ofNat n => Q.npow x n
  | .negSucc n => Q.inv (Q.npow x (n + 1))
instance : Add (Q d) := ⟨Q.add⟩
instance : Mul (Q d) := ⟨Q.mul⟩
instance : Neg (Q d) := ⟨Q.neg⟩
instance : Sub (Q d) := ⟨Q.sub⟩
instance : Inv (Q d) := ⟨Q.inv⟩
instance : Div (Q d) := ⟨fun x y => Q.mul x (Q.inv y)⟩
instance : NatCast (Q d) := ⟨fun n => ⟨(n : Rat), 0⟩⟩
instance : IntCast (Q d) := ⟨fun n => ⟨(n : Rat), 0⟩⟩
instance (n : Nat) : OfNat (Q d) n := ⟨⟨(n : Rat), 0⟩⟩
instance : SMul Nat (Q d) := ⟨fun n x => Q.mul ⟨(n : Rat), 0⟩ x⟩
instance : SMul Int (Q d) := ⟨fun n x => Q.mul ⟨(n : Rat), 0⟩ x⟩
instance : HPow (Q d) Nat (Q d) := ⟨Q.npow⟩
instance : HPow (Q d) Int (Q d) := ⟨Q.zpow⟩
@[simp] theorem add_a (x y : Q d) : (x + y).a = x.a + y.a := rfl
@[simp] theorem add_b (x y : Q d) : (x + y).b = x.b + y.b := rfl
@[simp] theorem sub_a (x y : Q d) : (x - y).a = x.a - y.a := rfl
@[simp] theorem sub_b (x y : Q d) : (x - y).b = x.b - y.b := rfl
@[simp] theorem neg_a (x : Q d) : (-x).a = -x.a := rfl
@[simp] theorem neg_b (x : Q d) : (-x).b = -x.b := rfl
@[simp] theorem mul_a (x y : Q d) : (x * y).a = x.a * y.a + (d : Rat) * (x.b * y.b) := rfl
@[simp] theorem mul_b (x y : Q d) : (x * y).b = x.a * y.b + x.b * y.a := rfl
@[simp] theorem nat_a (n : Nat) : ((n : Q d)).a = (n : Rat) := rfl
@[simp] theorem nat_b (n : Nat) : ((n : Q d)).b = 0 := rfl
@[simp] theorem int_a (n : Int) : ((n : Q d)).a = (n : Rat) := rfl
@[simp] theorem int_b (n : Int) : ((n : Q d)).b = 0 := rfl
@[simp] theorem lit_a (n : Nat) : (OfNat.ofNat n : Q d).a = (n : Rat) := rfl
@[simp] theorem lit_b (n : Nat) : (OfNat.ofNat n : Q d).b = 0 := rfl
@[simp] theorem zero_a : (0 : Q d).a = 0 := rfl
@[simp] theorem zero_b : (0 : Q d).b = 0 := rfl
@[simp] theorem one_a : (1 : Q d).a = 1 := rfl
@[simp] theorem one_b : (1 : Q d).b = 0 := rfl
theorem nrm_zero [NSq d] {x : Q d} (h : x.nrm = 0) : x = 0 := by
  unfold nrm at h
  have hb : x.b = 0 := NSq.ns (d := d) x.a x.b (by grind)
  have ha : x.a = 0 := by rw [hb] at h; grind
  exact ext' ha hb
instance : Semiring (Q d) where
  add_zero x := ext' (by simp; grind) (by simp; grind)
  add_comm x y := ext' (by simp; grind) (by simp; grind)
  add_assoc x y z := ext' (by simp; grind) (by simp; grind)
  mul_assoc x y z := ext' (by simp; grind) (by simp; grind)
  mul_one x := ext' (by simp; grind) (by simp; grind)
  one_mul x := ext' (by simp; grind) (by simp; grind)
  left_distrib x y z := ext' (by simp; grind) (by simp; grind)
  right_distrib x y z := ext' (by simp; grind) (by simp; grind)
  zero_mul x := ext' (by simp; grind) (by simp; grind)
  mul_zero x := ext' (by simp; grind) (by simp; grind)
  pow_zero x := rfl
  pow_succ x n := rfl
  ofNat_succ n := ext' (by simp) (by simp; grind)
  ofNat_eq_natCast n := rfl
  nsmul_eq_natCast_mul n x := rfl
instance : CommRing (Q d) where
  neg_add_cancel x := ext' (by simp; grind) (by simp; grind)
  sub_eq_add_neg x y := ext' (by simp; grind) (by simp; grind)
  neg_zsmul i x := by
    show Q.mul ⟨((-i : Int) : Rat), 0⟩ x = Q.neg (Q.mul ⟨(i : Rat), 0⟩ x)
    apply ext' <;> simp [Q.mul, Q.neg, Rat.intCast_neg] <;> grind
  zsmul_natCast_eq_nsmul n x := by
    show Q.mul ⟨(((n : Nat) : Int) : Rat), 0⟩ x = Q.mul ⟨(n : Rat), 0⟩ x
    rfl
  intCast_ofNat n := rfl
  intCast_neg i := by
    show (⟨((-i : Int) : Rat), 0⟩ : Q d) = Q.neg ⟨(i : Rat), 0⟩
    apply ext' <;> simp [Q.neg, Rat.intCast_neg]
  mul_comm x y := ext' (by simp; grind) (by simp; grind)
theorem inv_a (x : Q d) : (x⁻¹).a = x.a / x.nrm := rfl
theorem inv_b (x : Q d) : (x⁻¹).b = -x.b / x.nrm := rfl
theorem mul_inv [NSq d] {x : Q d} (h : x ≠ 0) : x * x⁻¹ = 1 := by
  have hn : x.nrm ≠ 0 := fun e => h (nrm_zero e)
  have e : x.nrm = x.a * x.a - (d : Rat) * (x.b * x.b) := rfl
  apply ext'
  · rw [mul_a, inv_a, inv_b, one_a]; grind
  · rw [mul_b, inv_a, inv_b, one_b]; grind
instance [NSq d] : Field (Q d) where
  div_eq_mul_inv x y := rfl
  zero_ne_one := fun h => by
    have := congrArg Q.a h
    simp at this
  inv_zero := ext' (by rw [inv_a]; simp; grind) (by rw [inv_b]; simp; grind)
  mul_inv_cancel := mul_inv
  zpow_zero x := rfl
  zpow_succ x n := rfl
  zpow_neg x n := by
    show Q.zpow x (-n) = Q.inv (Q.zpow x n)
    have inv0 : Q.inv (⟨1, 0⟩ : Q d) = ⟨1, 0⟩ := by
      show (⟨_, _⟩ : Q d) = _
      apply ext' <;> simp [nrm] <;> grind
    have invinv : ∀ y : Q d, Q.inv (Q.inv y) = y := by
      intro y
      by_cases h : y = 0
      · subst h
        show Q.inv (Q.inv (0 : Q d)) = 0
        have : Q.inv (0 : Q d) = 0 := ext' (by show (0:Rat) / _ = 0; grind) (by show -(0:Rat) / _ = 0; grind)
        rw [this, this]
      · have h1 := mul_inv h
        have hy : y⁻¹ ≠ 0 := fun e => by
          rw [e] at h1
          have := congrArg Q.a h1
          simp at this
          grind
        have h2 := mul_inv hy
        show (y⁻¹)⁻¹ = y
        calc (y⁻¹)⁻¹ = 1 * (y⁻¹)⁻¹ := by grind
          _ = (y * y⁻¹) * (y⁻¹)⁻¹ := by rw [h1]
          _ = y * (y⁻¹ * (y⁻¹)⁻¹) := by grind
          _ = y := by rw [h2]; grind
    match n with
    | .ofNat 0 => exact inv0.symm
    | .ofNat (k + 1) => rfl
    | .negSucc k => exact (invinv _).symm
end Q
end Qu

set_option Elab.async false
set_option linter.all false
set_option maxRecDepth 100000
/-! Q2: the order of Q d. -/
namespace Qu
open Lean.Grind
variable {d : Nat}
namespace Q
/-- above 0 -/
def pos (x : Q d) : Prop := (0 < x.a ∧ 0 < x.nrm) ∨ (0 < x.b ∧ x.nrm < 0)
theorem sq_lt {x y : Rat} (hx : 0 ≤ x) (hy : 0 ≤ y) (h : x * x < y * y) : x < y := by
  rcases (show x < y ∨ y ≤ x by grind) with h1 | h1
  · exact h1
  · have : y * y ≤ x * x := by
      have h2 : y * y ≤ y * x := Rat.mul_le_mul_of_nonneg_left h1 hy
      have h3 : y * x ≤ x * x := Rat.mul_le_mul_of_nonneg_right h1 hx
      grind
    grind
theorem mul_pos' {x y : Rat} (hx : 0 < x) (hy : 0 < y) : 0 < x * y := Rat.mul_pos hx hy
theorem sq_nn (x : Rat) : 0 ≤ x * x := by
  rcases Rat.le_total (a := 0) (b := x) with h | h
  · exact Rat.mul_nonneg h h
  · have : 0 ≤ (-x) * (-x) := Rat.mul_nonneg (by grind) (by grind)
    grind
theorem sq_pos {x : Rat} (h : x ≠ 0) : 0 < x * x := by
  have := sq_nn x
  have h2 : x * x ≠ 0 := by grind
  grind
/-- from squares to the terms: x x < y y and y above 0 give x < y and -x < y -/
theorem abs_lt {x y : Rat} (hy : 0 < y) (h : x * x < y * y) : x < y ∧ -x < y := by
  constructor
  · rcases Rat.le_total (a := 0) (b := x) with h1 | h1
    · exact sq_lt h1 (by grind) h
    · grind
  · rcases Rat.le_total (a := 0) (b := x) with h1 | h1
    · grind
    · exact sq_lt (x := -x) (by grind) (by grind) (by grind)
theorem nrm_mul (x y : Q d) : (x * y).nrm = x.nrm * y.nrm := by
  unfold nrm
  rw [mul_a, mul_b]
  grind
theorem nrm_ne [NSq d] {x : Q d} (h : x ≠ 0) : x.nrm ≠ 0 := fun e => h (nrm_zero e)
theorem d_pos [NSq d] : 0 < (d : Rat) := by
  rcases Nat.eq_zero_or_pos d with h | h
  · subst h
    have := NSq.ns (d := 0) 0 1 (by grind)
    grind
  · exact_mod_cast h
theorem mul_lt' {p q r s : Rat} (hp : 0 ≤ p) (h1 : p < q) (hr : 0 ≤ r) (h2 : r < s) : p * r < q * s := by
  have a1 : q * r < q * s := Rat.mul_lt_mul_of_pos_left h2 (by grind)
  have a2 : p * r ≤ q * r := Rat.mul_le_mul_of_nonneg_right (by grind) hr
  grind
theorem pos_mul [NSq d] {x y : Q d} (hx : pos x) (hy : pos y) : pos (x * y) := by
  have hd := d_pos (d := d)
  have n := nrm_mul x y
  have sx := sq_nn x.b
  have sy := sq_nn y.b
  have sxa := sq_nn x.a
  have sya := sq_nn y.a
  have d1 : 0 ≤ (d : Rat) * (x.b * x.b) := Rat.mul_nonneg (by grind) sx
  have d2 : 0 ≤ (d : Rat) * (y.b * y.b) := Rat.mul_nonneg (by grind) sy
  unfold pos
  rcases hx with ⟨ha, hn⟩ | ⟨hb, hn⟩ <;> rcases hy with ⟨ha2, hn2⟩ | ⟨hb2, hn2⟩ <;> unfold nrm at hn hn2
  · left
    constructor
    · rw [mul_a]
      have h1 := mul_lt' d1 (show _ < x.a * x.a by grind) d2 (show _ < y.a * y.a by grind)
      have h2 := abs_lt (x := (d : Rat) * (x.b * y.b)) (y := x.a * y.a) (Rat.mul_pos ha ha2) (by grind)
      grind
    · rw [n]; exact Rat.mul_pos hn hn2
  · right
    constructor
    · rw [mul_b]
      have h1 := mul_lt' d1 (show _ < x.a * x.a by grind) sya (show _ < (d : Rat) * (y.b * y.b) by grind)
      have h3 : (d : Rat) * ((x.b * y.a) * (x.b * y.a)) < (d : Rat) * ((x.a * y.b) * (x.a * y.b)) := by grind
      have h4 := Rat.lt_of_mul_lt_mul_left h3 (by grind)
      have h2 := abs_lt (x := x.b * y.a) (y := x.a * y.b) (Rat.mul_pos ha hb2) h4
      grind
    · rw [n]
      have := Rat.mul_pos hn (show 0 < -y.nrm by unfold nrm; grind)
      unfold nrm at *
      grind
  · right
    constructor
    · rw [mul_b]
      have h1 := mul_lt' d2 (show _ < y.a * y.a by grind) sxa (show _ < (d : Rat) * (x.b * x.b) by grind)
      have h3 : (d : Rat) * ((x.a * y.b) * (x.a * y.b)) < (d : Rat) * ((x.b * y.a) * (x.b * y.a)) := by grind
      have h4 := Rat.lt_of_mul_lt_mul_left h3 (by grind)
      have h2 := abs_lt (x := x.a * y.b) (y := x.b * y.a) (Rat.mul_pos hb ha2) h4
      grind
    · rw [n]
      have := Rat.mul_pos hn2 (show 0 < -x.nrm by unfold nrm; grind)
      unfold nrm at *
      grind
  · left
    constructor
    · rw [mul_a]
      have h1 := mul_lt' sxa (show _ < (d : Rat) * (x.b * x.b) by grind) sya (show _ < (d : Rat) * (y.b * y.b) by grind)
      have h2 := abs_lt (x := x.a * y.a) (y := (d : Rat) * (x.b * y.b)) (Rat.mul_pos hd (Rat.mul_pos hb hb2)) (by grind)
      grind
    · rw [n]
      have := Rat.mul_pos (show 0 < -x.nrm by unfold nrm; grind) (show 0 < -y.nrm by unfold nrm; grind)
      grind
theorem pos_ne {x : Q d} (h : pos x) : x ≠ 0 := fun e => by
  subst e
  rcases h with ⟨h, _⟩ | ⟨h, _⟩ <;> simp at h
theorem inv_pos' {x : Rat} (h : 0 < x) : 0 < x⁻¹ := Rat.inv_pos.mpr h
theorem pos_inv [NSq d] {x : Q d} (h : pos x) : pos x⁻¹ := by
  have hne := nrm_ne (pos_ne h)
  have hn : (x⁻¹).nrm = (x.nrm)⁻¹ := by
    have : (x⁻¹).nrm = (x.a / x.nrm) * (x.a / x.nrm) - (d : Rat) * ((-x.b / x.nrm) * (-x.b / x.nrm)) := rfl
    have e : x.nrm = x.a * x.a - (d : Rat) * (x.b * x.b) := rfl
    rw [this]
    grind
  unfold pos
  rw [hn, inv_a, inv_b]
  rcases h with ⟨ha, h⟩ | ⟨hb, h⟩
  · left
    have := inv_pos' h
    exact ⟨by rw [Rat.div_def]; exact Rat.mul_pos ha this, this⟩
  · right
    have h2 := inv_pos' (show 0 < -x.nrm by grind)
    have h3 : (-x.nrm)⁻¹ = -(x.nrm)⁻¹ := by grind
    rw [h3] at h2
    have h4 := Rat.mul_pos hb h2
    constructor
    · grind
    · grind
theorem pos_one_add [NSq d] {z : Q d} (h : pos z) : pos (1 + z) := by
  unfold pos
  have hd := d_pos (d := d)
  have e : (1 + z).nrm = (1 + z.a) * (1 + z.a) - (d : Rat) * (z.b * z.b) := by
    unfold nrm
    rw [add_a, add_b, one_a, one_b]
    grind
  have ea : (1 + z).a = 1 + z.a := rfl
  have eb : (1 + z).b = z.b := by rw [add_b, one_b]; grind
  rw [e, ea, eb]
  rcases h with ⟨ha, h⟩ | ⟨hb, h⟩ <;> unfold nrm at h
  · left; constructor <;> grind
  · rcases (show (1 + z.a) * (1 + z.a) - (d : Rat) * (z.b * z.b) < 0 ∨ (1 + z.a) * (1 + z.a) = (d : Rat) * (z.b * z.b) ∨ 0 < (1 + z.a) * (1 + z.a) - (d : Rat) * (z.b * z.b) by grind) with h1 | h1 | h1
    · right; exact ⟨hb, h1⟩
    · have := NSq.ns (d := d) _ _ h1
      grind
    · left; constructor <;> grind
theorem pos_add [NSq d] {x y : Q d} (hx : pos x) (hy : pos y) : pos (x + y) := by
  have h1 := pos_mul hx (pos_one_add (pos_mul hy (pos_inv hx)))
  have h2 := mul_inv (pos_ne hx)
  have : x * (1 + y * x⁻¹) = x + y := by grind
  rwa [this] at h1
theorem pos_neg [NSq d] {x : Q d} (h : pos x) : ¬ pos (-x) := fun h2 => by
  have h1 := pos_add h h2
  have : x + -x = 0 := by grind
  rw [this] at h1
  exact pos_ne h1 rfl
theorem pos_total [NSq d] (x : Q d) : x = 0 ∨ pos x ∨ pos (-x) := by
  by_cases h0 : x = 0
  · exact .inl h0
  · right
    have hn := nrm_ne h0
    have e : (-x).nrm = x.nrm := by unfold nrm; rw [neg_a, neg_b]; grind
    have hd := d_pos (d := d)
    unfold pos
    rw [e, neg_a, neg_b]
    have d1 : 0 ≤ (d : Rat) * (x.b * x.b) := Rat.mul_nonneg (by grind) (sq_nn x.b)
    have d2 := sq_nn x.a
    rcases (show 0 < x.nrm ∨ x.nrm < 0 by grind) with h | h
    · have : x.a ≠ 0 := fun e => by unfold nrm at h; rw [e] at h; grind
      rcases (show 0 < x.a ∨ 0 < -x.a by grind) with h2 | h2
      · exact .inl (.inl ⟨h2, h⟩)
      · exact .inr (.inl ⟨h2, h⟩)
    · have : x.b ≠ 0 := fun e => by unfold nrm at h; rw [e] at h; grind
      rcases (show 0 < x.b ∨ 0 < -x.b by grind) with h2 | h2
      · exact .inl (.inr ⟨h2, h⟩)
      · exact .inr (.inr ⟨h2, h⟩)
instance : LT (Q d) := ⟨fun x y => pos (y - x)⟩
instance : LE (Q d) := ⟨fun x y => x = y ∨ pos (y - x)⟩
theorem lt_def {x y : Q d} : x < y ↔ pos (y - x) := Iff.rfl
theorem le_def {x y : Q d} : x ≤ y ↔ x = y ∨ pos (y - x) := Iff.rfl
instance [NSq d] : Std.IsLinearOrder (Q d) where
  le_refl x := .inl rfl
  le_trans x y z h1 h2 := by
    rcases h1 with rfl | h1
    · exact h2
    rcases h2 with rfl | h2
    · exact .inr h1
    · right
      have := pos_add h1 h2
      have e : y - x + (z - y) = z - x := by grind
      rwa [e] at this
  le_antisymm x y h1 h2 := by
    rcases h1 with h1 | h1
    · exact h1
    rcases h2 with h2 | h2
    · exact h2.symm
    · exfalso
      apply pos_neg h1
      have e : -(y - x) = x - y := by grind
      rwa [e]
  le_total x y := by
    rcases pos_total (y - x) with h | h | h
    · left; left; grind
    · left; right; exact h
    · right; right
      have e : -(y - x) = x - y := by grind
      rwa [e] at h
instance [NSq d] : Std.LawfulOrderLT (Q d) where
  lt_iff x y := by
    constructor
    · intro h
      refine ⟨.inr h, ?_⟩
      rintro (rfl | h2)
      · have e : y - y = (0 : Q d) := by grind
        exact pos_ne (show pos (y - y) from h) e
      · apply pos_neg (show pos (y - x) from h)
        have e : -(y - x) = x - y := by grind
        rwa [e]
    · rintro ⟨h1 | h1, h2⟩
      · exact absurd (.inl h1.symm) h2
      · exact h1
instance [NSq d] : OrderedRing (Q d) where
  add_le_left_iff {x y} z := by
    have e : y + z - (x + z) = y - x := by grind
    constructor
    · rintro (rfl | h)
      · exact .inl rfl
      · right; rwa [e]
    · rintro (h | h)
      · left; grind
      · right; rwa [e] at h
  zero_lt_one := by
    show pos (1 - 0 : Q d)
    have e : (1 - 0 : Q d) = 1 := by grind
    rw [e]
    left
    constructor
    · rw [one_a]; grind
    · unfold nrm; rw [one_a, one_b]; grind
  mul_lt_mul_of_pos_left {x y z} h1 h2 := by
    show pos (z * y - z * x)
    have h3 := pos_mul (show pos (z - 0) from h2) (show pos (y - x) from h1)
    have e : (z - 0) * (y - x) = z * y - z * x := by grind
    rwa [e] at h3
  mul_lt_mul_of_pos_right {x y z} h1 h2 := by
    show pos (y * z - x * z)
    have h3 := pos_mul (show pos (z - 0) from h2) (show pos (y - x) from h1)
    have e : (z - 0) * (y - x) = y * z - x * z := by grind
    rwa [e] at h3
end Q
end Qu

set_option Elab.async false
set_option linter.all false
set_option maxRecDepth 100000
/-! Q3: the triples in lowest terms. -/
namespace Qu
open Lean.Grind
variable {d : Nat}
def g3 (p q s : Int) : Nat := Int.gcd (Int.gcd p q) s
theorem g3_dvd (p q s : Int) : (g3 p q s : Int) ∣ p ∧ (g3 p q s : Int) ∣ q ∧ (g3 p q s : Int) ∣ s := by
  have h1 := Int.gcd_dvd_left (a := (Int.gcd p q : Int)) (b := s)
  exact ⟨Int.dvd_trans h1 (Int.gcd_dvd_left ..), Int.dvd_trans h1 (Int.gcd_dvd_right ..), Int.gcd_dvd_right ..⟩
theorem dvd_g3 {k p q s : Int} (h1 : k ∣ p) (h2 : k ∣ q) (h3 : k ∣ s) : k ∣ (g3 p q s : Int) := Int.dvd_coe_gcd (Int.dvd_coe_gcd h1 h2) h3
theorem g3_pos {p q s : Int} (h : s ≠ 0) : 0 < g3 p q s := by
  unfold g3
  have := Int.gcd_pos_of_ne_zero_right (Int.gcd p q : Int) h
  exact this
theorem g3_mul (p q s k : Int) : g3 (p * k) (q * k) (s * k) = g3 p q s * k.natAbs := by
  unfold g3
  rw [Int.gcd_mul_right]
  have e : ((Int.gcd p q * k.natAbs : Nat) : Int) = Int.gcd p q * (k.natAbs : Int) := Int.natCast_mul ..
  rw [e]
  have h3 : ∀ x : Int, Int.gcd x (s * k) = Int.gcd x (s * (k.natAbs : Int)) := fun x => by
    rcases Int.natAbs_eq k with h | h
    · rw [← h]
    · have h2 : (k.natAbs : Int) = -k := by omega
      rw [h2, Int.mul_neg, Int.gcd_neg]
  rw [h3, Int.gcd_mul_right, Int.natAbs_natCast]
/-- in lowest terms -/
structure Nf (p q s : Int) : Prop where
  pos : 0 < s
  one : g3 p q s = 1
theorem nf_dvd {p q s p' q' s' : Int} (h : Nf p q s) (e1 : p * s' = p' * s) (e2 : q * s' = q' * s) : s ∣ s' := by
  have h1 : s ∣ (g3 (p * s') (q * s') (s * s') : Int) := dvd_g3 (e1 ▸ Int.dvd_mul_left ..) (e2 ▸ Int.dvd_mul_left ..) (Int.dvd_mul_right ..)
  rw [g3_mul, h.one, Nat.one_mul] at h1
  exact Int.dvd_natAbs.mp h1
theorem nf_eq {p q s p' q' s' : Int} (h : Nf p q s) (h' : Nf p' q' s') (e1 : p * s' = p' * s) (e2 : q * s' = q' * s) : p = p' ∧ q = q' ∧ s = s' := by
  have d1 := nf_dvd h e1 e2
  have d2 := nf_dvd h' e1.symm e2.symm
  have e : s = s' := Int.dvd_antisymm (by have := h.pos; omega) (by have := h'.pos; omega) d1 d2
  subst e
  have hs : s ≠ 0 := by have := h.pos; omega
  exact ⟨Int.eq_of_mul_eq_mul_right hs e1, Int.eq_of_mul_eq_mul_right hs e2, rfl⟩
/-- the number p + q times the root, by s -/
def mkQ (d : Nat) (p q s : Int) : Q d := ⟨(p : Rat) / (s : Rat), (q : Rat) / (s : Rat)⟩
theorem cast_ne {s : Int} (h : s ≠ 0) : (s : Rat) ≠ 0 := by exact_mod_cast h
theorem mkQ_eq_iff {p q s p' q' s' : Int} (hs : s ≠ 0) (hs' : s' ≠ 0) : mkQ d p q s = mkQ d p' q' s' ↔ p * s' = p' * s ∧ q * s' = q' * s := by
  have h1 := cast_ne hs
  have h2 := cast_ne hs'
  unfold mkQ
  rw [ext_iff']
  constructor
  · rintro ⟨a, b⟩
    have a : (p : Rat) / s = p' / s' := a
    have b : (q : Rat) / s = q' / s' := b
    have a2 : (p : Rat) * s' = p' * s := by grind
    have b2 : (q : Rat) * s' = q' * s := by grind
    exact ⟨by exact_mod_cast a2, by exact_mod_cast b2⟩
  · rintro ⟨a, b⟩
    have a2 : (p : Rat) * s' = p' * s := by exact_mod_cast a
    have b2 : (q : Rat) * s' = q' * s := by exact_mod_cast b
    refine ⟨?_, ?_⟩
    · show (p : Rat) / s = p' / s'
      grind
    · show (q : Rat) / s = q' / s'
      grind
/-- the three numbers of p, q, s in lowest terms -/
def dv (p q s : Int) : Int := if s < 0 then -(g3 p q s : Int) else g3 p q s
theorem dv_ne {p q s : Int} (h : s ≠ 0) : dv p q s ≠ 0 := by
  have := g3_pos (p := p) (q := q) h
  unfold dv
  split <;> omega
theorem dv_dvd (p q s : Int) : dv p q s ∣ p ∧ dv p q s ∣ q ∧ dv p q s ∣ s := by
  have h := g3_dvd p q s
  unfold dv
  split
  · exact ⟨Int.neg_dvd.mpr h.1, Int.neg_dvd.mpr h.2.1, Int.neg_dvd.mpr h.2.2⟩
  · exact h
theorem nz_core {c p q s p' q' s' : Int} (hc : c ≠ 0) (hp : p = p' * c) (hq : q = q' * c) (hs : s = s' * c) (hg : g3 p q s = c.natAbs) (h0 : 0 < s') : Nf (p / c) (q / c) (s / c) := by
  subst hp hq hs
  rw [Int.mul_ediv_cancel _ hc, Int.mul_ediv_cancel _ hc, Int.mul_ediv_cancel _ hc]
  refine ⟨h0, ?_⟩
  rw [g3_mul] at hg
  have : 0 < c.natAbs := by omega
  exact Nat.eq_of_mul_eq_mul_right this (by omega)
theorem nz_nf {p q s : Int} (h : s ≠ 0) : Nf (p / dv p q s) (q / dv p q s) (s / dv p q s) := by
  have hd := dv_ne (p := p) (q := q) h
  obtain ⟨⟨p', hp⟩, ⟨q', hq⟩, ⟨s', hs⟩⟩ := dv_dvd p q s
  have hg : g3 p q s = (dv p q s).natAbs := by unfold dv; split <;> omega
  have hsg : (s < 0 ∧ dv p q s < 0) ∨ (0 < s ∧ 0 < dv p q s) := by
    have := g3_pos (p := p) (q := q) h
    unfold dv
    split <;> omega
  refine nz_core hd (hp.trans (Int.mul_comm ..)) (hq.trans (Int.mul_comm ..)) (hs.trans (Int.mul_comm ..)) hg ?_
  rcases hsg with ⟨h1, h2⟩ | ⟨h1, h2⟩
  · have h3 : dv p q s * s' < 0 := by rw [← hs]; exact h1
    exact Int.pos_of_mul_neg_left (by rw [Int.mul_comm]; exact h3) h2
  · have h3 : 0 < dv p q s * s' := by rw [← hs]; exact h1
    exact Int.pos_of_mul_pos_right h3 h2
theorem nz_val {p q s : Int} (h : s ≠ 0) : mkQ d (p / dv p q s) (q / dv p q s) (s / dv p q s) = mkQ d p q s := by
  have hn := nz_nf (p := p) (q := q) h
  have hd := dv_ne (p := p) (q := q) h
  obtain ⟨h1, h2, h3⟩ := dv_dvd p q s
  have e1 := Int.ediv_mul_cancel h1
  have e2 := Int.ediv_mul_cancel h2
  have e3 := Int.ediv_mul_cancel h3
  rw [mkQ_eq_iff (by have := hn.pos; omega) h]
  generalize p / dv p q s = p' at *
  generalize q / dv p q s = q' at *
  generalize s / dv p q s = s' at *
  rw [← e1, ← e2, ← e3]
  constructor <;> grind
/-- a number's triple -/
def p0 (x : Q d) : Int := x.a.num * x.b.den
def q0 (x : Q d) : Int := x.b.num * x.a.den
def s0 (x : Q d) : Int := x.a.den * x.b.den
theorem s0_ne (x : Q d) : s0 x ≠ 0 := by
  unfold s0
  have h1 := x.a.den_nz
  have h2 := x.b.den_nz
  intro h
  rcases Int.mul_eq_zero.mp h with h | h <;> omega
theorem rat_eq (r : Rat) : r * (r.den : Rat) = (r.num : Rat) := by
  have e : r = (r.num : Rat) / (r.den : Rat) := by rw [← Rat.mkRat_eq_div, Rat.mkRat_self]
  have h : (r.den : Rat) ≠ 0 := by have := r.den_nz; exact_mod_cast this
  generalize (r.num : Rat) = n at *
  generalize (r.den : Rat) = m at *
  grind
theorem val0 (x : Q d) : mkQ d (p0 x) (q0 x) (s0 x) = x := by
  have h1 : (x.a.den : Rat) ≠ 0 := by have := x.a.den_nz; exact_mod_cast this
  have h2 : (x.b.den : Rat) ≠ 0 := by have := x.b.den_nz; exact_mod_cast this
  have e1 := rat_eq x.a
  have e2 := rat_eq x.b
  unfold mkQ p0 q0 s0
  apply ext'
  · show ((x.a.num * x.b.den : Int) : Rat) / ((x.a.den * x.b.den : Int) : Rat) = x.a
    rw [Rat.intCast_mul, Rat.intCast_mul, Rat.intCast_natCast, Rat.intCast_natCast, ← e1]
    grind
  · show ((x.b.num * x.a.den : Int) : Rat) / ((x.a.den * x.b.den : Int) : Rat) = x.b
    rw [Rat.intCast_mul, Rat.intCast_mul, Rat.intCast_natCast, Rat.intCast_natCast, ← e2]
    grind
namespace Q
def p (x : Q d) : Int := p0 x / dv (p0 x) (q0 x) (s0 x)
def q (x : Q d) : Int := q0 x / dv (p0 x) (q0 x) (s0 x)
def s (x : Q d) : Int := s0 x / dv (p0 x) (q0 x) (s0 x)
end Q
theorem x_nf (x : Q d) : Nf x.p x.q x.s := nz_nf (s0_ne x)
theorem x_val (x : Q d) : mkQ d x.p x.q x.s = x := (nz_val (s0_ne x)).trans (val0 x)
theorem s_pos (x : Q d) : 0 < x.s := (x_nf x).pos
/-- the triple of a number is the only one in lowest terms -/
theorem nf_rep {p q s : Int} (h : Nf p q s) : (mkQ d p q s).p = p ∧ (mkQ d p q s).q = q ∧ (mkQ d p q s).s = s := by
  have h2 := x_nf (mkQ d p q s)
  have h3 := x_val (mkQ d p q s)
  obtain ⟨e1, e2⟩ := (mkQ_eq_iff (by have := h2.pos; omega) (by have := h.pos; omega)).mp h3
  exact nf_eq h2 h e1 e2
theorem nz_rep {p q s : Int} (h : s ≠ 0) : p / dv p q s = (mkQ d p q s).p ∧ q / dv p q s = (mkQ d p q s).q ∧ s / dv p q s = (mkQ d p q s).s := by
  have h1 := nf_rep (d := d) (nz_nf (p := p) (q := q) h)
  rw [nz_val h] at h1
  exact ⟨h1.1.symm, h1.2.1.symm, h1.2.2.symm⟩
theorem rep_inj {x y : Q d} (h1 : x.p = y.p) (h2 : x.q = y.q) (h3 : x.s = y.s) : x = y := by
  rw [← x_val x, ← x_val y, h1, h2, h3]
theorem xa (x : Q d) : x.a * (x.s : Rat) = (x.p : Rat) := by
  have h := congrArg Q.a (x_val x)
  have hs := cast_ne (show x.s ≠ 0 by have := s_pos x; omega)
  have h : (x.p : Rat) / x.s = x.a := h
  grind
theorem xb (x : Q d) : x.b * (x.s : Rat) = (x.q : Rat) := by
  have h := congrArg Q.b (x_val x)
  have hs := cast_ne (show x.s ≠ 0 by have := s_pos x; omega)
  have h : (x.q : Rat) / x.s = x.b := h
  grind
theorem sq_ne (x : Q d) : (x.s : Rat) ≠ 0 := cast_ne (by have := s_pos x; omega)
end Qu

set_option Elab.async false
set_option linter.all false
set_option maxRecDepth 100000
/-! Q4: reckoning with triples. -/
namespace Qu
open Lean.Grind
variable {d : Nat}
theorem mkQ_of {x : Q d} {p q s : Int} (hs : s ≠ 0) (h1 : x.a * (s : Rat) = (p : Rat)) (h2 : x.b * (s : Rat) = (q : Rat)) : mkQ d p q s = x := by
  have h := cast_ne hs
  unfold mkQ
  apply ext'
  · show (p : Rat) / (s : Rat) = x.a
    grind
  · show (q : Rat) / (s : Rat) = x.b
    grind
theorem t_plus (x y : Q d) : mkQ d (x.p * y.s + y.p * x.s) (x.q * y.s + y.q * x.s) (x.s * y.s) = x + y := by
  have h1 := xa x; have h2 := xa y; have h3 := xb x; have h4 := xb y
  have hs : x.s * y.s ≠ 0 := by have := Int.mul_pos (s_pos x) (s_pos y); omega
  apply mkQ_of hs
  · rw [Q.add_a, Rat.intCast_add, Rat.intCast_mul, Rat.intCast_mul, Rat.intCast_mul]; grind
  · rw [Q.add_b, Rat.intCast_add, Rat.intCast_mul, Rat.intCast_mul, Rat.intCast_mul]; grind
theorem t_minus (x y : Q d) : mkQ d (x.p * y.s + -y.p * x.s) (x.q * y.s + -y.q * x.s) (x.s * y.s) = x - y := by
  have h1 := xa x; have h2 := xa y; have h3 := xb x; have h4 := xb y
  have hs : x.s * y.s ≠ 0 := by have := Int.mul_pos (s_pos x) (s_pos y); omega
  apply mkQ_of hs
  · rw [Q.sub_a, Rat.intCast_add, Rat.intCast_mul, Rat.intCast_mul, Rat.intCast_mul, Rat.intCast_neg]; grind
  · rw [Q.sub_b, Rat.intCast_add, Rat.intCast_mul, Rat.intCast_mul, Rat.intCast_mul, Rat.intCast_neg]; grind
theorem t_times (x y : Q d) : mkQ d (x.p * y.p + (d : Int) * x.q * y.q) (x.p * y.q + x.q * y.p) (x.s * y.s) = x * y := by
  have h1 := xa x; have h2 := xa y; have h3 := xb x; have h4 := xb y
  have hs : x.s * y.s ≠ 0 := by have := Int.mul_pos (s_pos x) (s_pos y); omega
  apply mkQ_of hs
  · rw [Q.mul_a, Rat.intCast_add, Rat.intCast_mul, Rat.intCast_mul, Rat.intCast_mul, Rat.intCast_mul, ← h1, ← h2, ← h3, ← h4, Rat.intCast_natCast]; grind
  · rw [Q.mul_b, Rat.intCast_add, Rat.intCast_mul, Rat.intCast_mul, Rat.intCast_mul, ← h1, ← h2, ← h3, ← h4]; grind
theorem nrm_int (x : Q d) : x.nrm * ((x.s * x.s : Int) : Rat) = ((x.p * x.p - (d : Int) * x.q * x.q : Int) : Rat) := by
  have h1 := xa x; have h3 := xb x
  unfold Q.nrm
  rw [Rat.intCast_sub, Rat.intCast_mul, Rat.intCast_mul, Rat.intCast_mul, Rat.intCast_mul, ← h1, ← h3, Rat.intCast_natCast]; grind
theorem nrm_int_ne [NSq d] {x : Q d} (h : x ≠ 0) : x.p * x.p - (d : Int) * x.q * x.q ≠ 0 := fun e => by
  have h1 := nrm_int x
  rw [e] at h1
  have h2 := Q.nrm_ne h
  have h3 : ((x.s * x.s : Int) : Rat) ≠ 0 := cast_ne (by have := Int.mul_pos (s_pos x) (s_pos x); omega)
  have h4 : ((0 : Int) : Rat) = 0 := rfl
  rw [h4] at h1
  grind
theorem t_inv [NSq d] {x : Q d} (h : x ≠ 0) : mkQ d (x.s * x.p) (-x.s * x.q) (x.p * x.p - (d : Int) * x.q * x.q) = x⁻¹ := by
  have h1 := xa x; have h3 := xb x
  have h5 := nrm_int x
  have h2 := Q.nrm_ne h
  have hs := sq_ne x
  apply mkQ_of (nrm_int_ne h)
  · rw [← h5, Q.inv_a, Rat.intCast_mul, Rat.intCast_mul, ← h1]; grind
  · rw [← h5, Q.inv_b, Rat.intCast_mul, Rat.intCast_mul, Rat.intCast_neg, ← h3]; grind
theorem conj_rep (x : Q d) : x.conj.p = x.p ∧ x.conj.q = -x.q ∧ x.conj.s = x.s := by
  have h := x_nf x
  have hn : Nf x.p (-x.q) x.s := ⟨h.pos, by have := h.one; unfold g3 at *; rwa [Int.gcd_neg]⟩
  have e : mkQ d x.p (-x.q) x.s = x.conj := by
    have h1 := xa x; have h3 := xb x
    refine mkQ_of (by have := h.pos; omega) h1 ?_
    show -x.b * (x.s : Rat) = _
    rw [Rat.intCast_neg, ← h3]; grind
  have := nf_rep (d := d) hn
  rwa [e] at this
theorem neg_rep (x : Q d) : (-x).p = -x.p ∧ (-x).q = -x.q ∧ (-x).s = x.s := by
  have h := x_nf x
  have hn : Nf (-x.p) (-x.q) x.s := ⟨h.pos, by have := h.one; unfold g3 at *; rwa [Int.gcd_neg, Int.neg_gcd]⟩
  have e : mkQ d (-x.p) (-x.q) x.s = -x := by
    have h1 := xa x; have h3 := xb x
    refine mkQ_of (by have := h.pos; omega) ?_ ?_
    · rw [Q.neg_a, Rat.intCast_neg, ← h1]; grind
    · rw [Q.neg_b, Rat.intCast_neg, ← h3]; grind
  have := nf_rep (d := d) hn
  rwa [e] at this
theorem rep_of {p q s : Int} {x : Q d} (h : Nf p q s) (e : mkQ d p q s = x) : x.p = p ∧ x.q = q ∧ x.s = s := by
  have := nf_rep (d := d) h
  rwa [e] at this
theorem int_rep (n : Int) : ((n : Q d)).p = n ∧ ((n : Q d)).q = 0 ∧ ((n : Q d)).s = 1 := by
  refine rep_of ⟨by omega, by unfold g3; simp⟩ ?_
  refine mkQ_of (by omega) ?_ ?_
  · show (n : Rat) * ((1 : Int) : Rat) = n
    have : ((1 : Int) : Rat) = 1 := rfl
    rw [this]; grind
  · show (0 : Rat) * ((1 : Int) : Rat) = ((0 : Int) : Rat)
    have : ((0 : Int) : Rat) = 0 := rfl
    rw [this]; grind
/-! the sign -/
theorem pos_int [NSq d] (x : Q d) : 0 < x ↔ (0 < x.p ∧ 0 < x.p * x.p - (d : Int) * x.q * x.q) ∨ (0 < x.q ∧ x.p * x.p - (d : Int) * x.q * x.q < 0) := by
  have h1 := xa x; have h3 := xb x
  have h5 := nrm_int x
  have hs : (0 : Rat) < (x.s : Rat) := by exact_mod_cast s_pos x
  have hss : (0 : Rat) < ((x.s * x.s : Int) : Rat) := by exact_mod_cast Int.mul_pos (s_pos x) (s_pos x)
  have e : 0 < x ↔ Q.pos x := by
    show Q.pos (x - 0) ↔ _
    have : x - 0 = x := by grind
    rw [this]
  have key : ∀ (u v : Rat) (z : Int), 0 < v → u * v = (z : Rat) → ((0 < u ↔ 0 < z) ∧ (u < 0 ↔ z < 0)) := by
    intro u v z hv hz
    have zl : (0 < z ↔ (0 : Rat) < (z : Rat)) := by
      constructor
      · intro h; exact_mod_cast h
      · intro h; exact_mod_cast h
    have zg : (z < 0 ↔ (z : Rat) < 0) := by
      constructor
      · intro h; exact_mod_cast h
      · intro h; exact_mod_cast h
    rw [zl, zg, ← hz]
    constructor
    · constructor
      · intro h; exact Rat.mul_pos h hv
      · intro h
        rcases (show 0 < u ∨ u = 0 ∨ 0 < -u by grind) with h2 | h2 | h2
        · exact h2
        · subst h2; grind
        · have := Rat.mul_pos h2 hv; grind
    · constructor
      · intro h
        have := Rat.mul_pos (show 0 < -u by grind) hv
        grind
      · intro h
        rcases (show u < 0 ∨ u = 0 ∨ 0 < u by grind) with h2 | h2 | h2
        · exact h2
        · subst h2; grind
        · have := Rat.mul_pos h2 hv; grind
  rw [e]
  unfold Q.pos
  rw [(key _ _ _ hs h1).1, (key _ _ _ hs h3).1, (key _ _ _ hss h5).1, (key _ _ _ hss h5).2]
theorem zero_int {x : Q d} : x = 0 ↔ x.p = 0 ∧ x.q = 0 := by
  have h1 := xa x; have h3 := xb x
  have hs := sq_ne x
  constructor
  · intro h
    have e := int_rep (d := d) 0
    have e0 : ((0 : Int) : Q d) = 0 := rfl
    rw [e0, ← h] at e
    exact ⟨e.1, e.2.1⟩
  · rintro ⟨a, b⟩
    have a2 : (x.p : Rat) = 0 := by rw [a]; rfl
    have b2 : (x.q : Rat) = 0 := by rw [b]; rfl
    apply ext'
    · show x.a = 0; grind
    · show x.b = 0; grind
/-- the sign as a number -/
noncomputable def sgn [NSq d] (x : Q d) : Int := open Classical in if 0 < x then 1 else if x = 0 then 0 else -1
end Qu

set_option Elab.async false
set_option linter.all false
set_option maxRecDepth 100000
set_option maxHeartbeats 4000000
/-! PVN: rules over whole numbers of any sign, and lengths as data. -/
namespace PV
open PySem L2 Qu
abbrev sI (i : Int) : Option R := some (false, .int i)
theorem N_int (n : Nat) : N n = .int (n : Int) := Eq.trans rfl (Eq.refl _)
theorem i_add (a b : Int) : evBin .add (.int a) (.int b) = some (false, .int (a + b)) := Eq.trans rfl (Eq.refl _)
theorem i_sub (a b : Int) : evBin .sub (.int a) (.int b) = some (false, .int (a - b)) := Eq.trans rfl (Eq.refl _)
theorem i_mul (a b : Int) : evBin .mul (.int a) (.int b) = if mulOk a b = true then some (false, .int (a * b)) else none := Eq.trans rfl (Eq.refl _)
theorem i_fdiv (a b : Int) : evBin .fdiv (.int a) (.int b) = if divOk b = true then some (false, .int (a.fdiv b)) else none := Eq.trans rfl (Eq.refl _)
theorem i_mod {a b : Int} (h : 0 < b) : evBin .mod (.int a) (.int b) = some (false, .int (a % b)) := by
  show (if decide (0 < b) = true then some (false, PyData.int (a % b)) else none) = _
  rw [if_pos (decide_eq_true h)]
theorem i_neg (a : Int) : evNeg (.int a) = some (false, .int (-a)) := Eq.trans rfl (Eq.refl _)
theorem i_abs (a : Int) : evBI .abs [.int a] = some (false, .int (a.natAbs : Int)) := by
  show some (false, PyData.int (if a < 0 then -a else a)) = _
  congr 3
  split <;> omega
theorem i_intb (k : Bool) : evBI .int [.bool k] = some (false, .int (if k then 1 else 0)) := Eq.trans rfl (Eq.refl _)
theorem i_inti (k : Int) : evBI .int [.int k] = some (false, .int k) := Eq.trans rfl (Eq.refl _)
theorem i_eq (a b : Int) : evCmp .eq (.int a) (.int b) = some (decide (a = b)) := Eq.trans rfl (Eq.refl _)
theorem i_ne (a b : Int) : evCmp .ne (.int a) (.int b) = some (!decide (a = b)) := Eq.trans rfl (Eq.refl _)
theorem i_lt (a b : Int) : evCmp .lt (.int a) (.int b) = some (decide (a < b)) := Eq.trans rfl (Eq.refl _)
theorem i_le (a b : Int) : evCmp .le (.int a) (.int b) = some (decide (a ≤ b)) := Eq.trans rfl (Eq.refl _)
theorem i_gt (a b : Int) : evCmp .gt (.int a) (.int b) = some (decide (b < a)) := Eq.trans rfl (Eq.refl _)
theorem i_ge (a b : Int) : evCmp .ge (.int a) (.int b) = some (decide (b ≤ a)) := Eq.trans rfl (Eq.refl _)
theorem i_asI (i : Int) : asI (.int i) = some i := Eq.trans rfl (Eq.refl _)
theorem log2_lt' {a k : Nat} (h : a < 2 ^ k) (h0 : 0 < k) : a.log2 < k := by
  by_cases h1 : a = 0
  · subst h1; rw [Nat.log2_zero]; exact h0
  · exact (Nat.log2_lt h1).mpr h
theorem mulOk_b {a b : Int} {k l : Nat} (ha : a.natAbs < 2 ^ k) (hb : b.natAbs < 2 ^ l) (h : k + l ≤ 900000) : mulOk a b = true := by
  have h1 := log2_lt' (Nat.lt_of_lt_of_le ha (Nat.pow_le_pow_right (by decide) (Nat.le_succ k))) (Nat.succ_pos k)
  have h2 := log2_lt' (Nat.lt_of_lt_of_le hb (Nat.pow_le_pow_right (by decide) (Nat.le_succ l))) (Nat.succ_pos l)
  unfold mulOk
  rw [Nat.blt_eq]
  omega
theorem divOk_b {b : Int} {k : Nat} (h0 : b ≠ 0) (hb : b.natAbs < 2 ^ k) (h : k ≤ 8900) : divOk b = true := by
  have h2 := log2_lt' (Nat.lt_of_lt_of_le hb (Nat.pow_le_pow_right (by decide) (Nat.le_succ k))) (Nat.succ_pos k)
  unfold divOk
  rw [Bool.and_eq_true, decide_eq_true_eq, Nat.blt_eq]
  exact ⟨h0, by omega⟩
/-! Euclid's way -/
theorem gcd_loop {c : Sl → Option Bool} {f : Sl → Option Out} (hc : ∀ a b : Nat, c [sI a, sI b] = some (decide (0 < b))) (hf : ∀ a b : Nat, 0 < b → f [sI a, sI b] = some (.nx [sI b, sI ((a % b : Nat) : Int)])) :
    ∀ (k : Nat) (a b n : Nat), b < 2 ^ k → 2 * k + 1 ≤ n → whileGo c f n [sI a, sI b] = some (.nx [sI (Nat.gcd a b : Nat), sI 0])
  | 0, a, b, n, hb, hn => by
    obtain rfl : b = 0 := by omega
    obtain ⟨n, rfl⟩ : ∃ m, n = m + 1 := ⟨n - 1, by omega⟩
    rw [wh_false (hc a 0), Nat.gcd_zero_right]
    rfl
  | k + 1, a, b, n, hb, hn => by
    obtain ⟨n, rfl⟩ : ∃ m, n = m + 1 := ⟨n - 1, by omega⟩
    by_cases h0 : b = 0
    · subst h0
      rw [wh_false (hc a 0), Nat.gcd_zero_right]
      rfl
    have hp : 0 < b := Nat.pos_of_ne_zero h0
    rw [wh_true ((hc a b).trans (by rw [decide_eq_true hp])) (hf a b hp)]
    have hr := Nat.mod_lt a hp
    have e : Nat.gcd a b = Nat.gcd b (a % b) := by rw [Nat.gcd_comm a b, Nat.gcd_rec b a, Nat.gcd_comm]
    rw [e]
    by_cases h1 : a % b < 2 ^ k
    · exact gcd_loop hc hf k b (a % b) n h1 (by omega)
    · obtain ⟨n, rfl⟩ : ∃ m, n = m + 1 := ⟨n - 1, by omega⟩
      have hrp : 0 < a % b := Nat.lt_of_lt_of_le (Nat.pow_pos (by decide)) (Nat.le_of_not_lt h1)
      rw [wh_true ((hc b (a % b)).trans (by rw [decide_eq_true hrp])) (hf b (a % b) hrp)]
      have e2 : Nat.gcd b (a % b) = Nat.gcd (a % b) (b % (a % b)) := by rw [Nat.gcd_comm b, Nat.gcd_rec (a % b) b, Nat.gcd_comm]
      rw [e2]
      refine gcd_loop hc hf k (a % b) (b % (a % b)) n ?_ (by omega)
      have h2 : b % (a % b) = b - a % b := by
        rw [Nat.mod_eq_sub_mod (by omega), Nat.mod_eq_of_lt]
        rw [Nat.pow_succ] at hb
        omega
      rw [h2]
      rw [Nat.pow_succ] at hb
      omega
theorem fuel_gcd {k : Nat} (h : k ≤ 9000) : 2 * k + 1 ≤ FUEL := by unfold FUEL; omega
/-! lengths -/
section
variable {d : Nat}
def L (x : Q d) : PyData := .tuple [.int x.p, .int x.q, .int x.s]
abbrev sQ (x : Q d) : Option R := some (false, L x)
theorem L_def (x : Q d) : L x = .tuple [.int x.p, .int x.q, .int x.s] := Eq.trans rfl (Eq.refl _)
theorem L_0 (x : Q d) : evIx (L x) (.int 0) = some (false, .int x.p) := Eq.trans rfl (Eq.refl _)
theorem L_1 (x : Q d) : evIx (L x) (.int 1) = some (false, .int x.q) := Eq.trans rfl (Eq.refl _)
theorem L_2 (x : Q d) : evIx (L x) (.int 2) = some (false, .int x.s) := Eq.trans rfl (Eq.refl _)
theorem L_asg (a b c : G) (x : Q d) (ρ : Sl) : asg (.thr a b c) (L x) ρ = (asg a (.int x.p) ρ).bind fun ρ1 => (asg b (.int x.q) ρ1).bind fun ρ2 => asg c (.int x.s) ρ2 := Eq.trans rfl (Eq.refl _)
theorem L_int (n : Int) : PyData.tuple [.int n, .int 0, .int 1] = L ((n : Int) : Q d) := by
  obtain ⟨h1, h2, h3⟩ := int_rep (d := d) n
  rw [L_def, h1, h2, h3]
theorem L_nf {p q s : Int} (h : Nf p q s) : PyData.tuple [.int p, .int q, .int s] = L (mkQ d p q s) := by
  obtain ⟨h1, h2, h3⟩ := nf_rep (d := d) h
  rw [L_def, h1, h2, h3]
theorem L_nz {p q s c : Int} (h : s ≠ 0) (hc : c = dv p q s) : PyData.tuple [.int (p.fdiv c), .int (q.fdiv c), .int (s.fdiv c)] = L (mkQ d p q s) := by
  subst hc
  obtain ⟨h1, h2, h3⟩ := nz_rep (d := d) (p := p) (q := q) h
  obtain ⟨d1, d2, d3⟩ := dv_dvd p q s
  rw [Int.fdiv_eq_ediv_of_dvd d1, Int.fdiv_eq_ediv_of_dvd d2, Int.fdiv_eq_ediv_of_dvd d3, h1, h2, h3, L_def]
theorem L_inj {x y : Q d} : L x = L y ↔ x = y := by
  constructor
  · intro h
    rw [L_def, L_def] at h
    injection h with h
    injection h with h1 h
    injection h with h2 h
    injection h with h3 h
    injection h1 with h1
    injection h2 with h2
    injection h3 with h3
    exact rep_inj h1 h2 h3
  · intro h; rw [h]
theorem eqv_int (a b : Int) : PyData.eqv (.int a) (.int b) = decide (a = b) := by
  show (a == b) = _
  rfl
open Classical in
theorem L_eqv (x y : Q d) : PyData.eqv (L x) (L y) = decide (x = y) := by
  have h : PyData.eqv (L x) (L y) = (decide (x.p = y.p) && (decide (x.q = y.q) && (decide (x.s = y.s) && true))) := by
    rw [L_def, L_def]
    simp only [PyData.eqv, PyData.eqvAll]
    rfl
  rw [h, Bool.eq_iff_iff]
  simp only [Bool.and_eq_true, decide_eq_true_eq, Bool.and_true]
  exact ⟨fun ⟨a, b, c⟩ => rep_inj a b c, fun e => by rw [e]; exact ⟨rfl, rfl, rfl⟩⟩
theorem L_dok (x : Q d) : dok (L x) = true := by
  rw [L_def]; rfl
open Classical in
theorem L_eq (x y : Q d) : evCmp .eq (L x) (L y) = some (decide (x = y)) := by
  have h : evCmp .eq (L x) (L y) = if dok (L x) && dok (L y) then some (PyData.eqv (L x) (L y)) else none := rfl
  rw [h, L_dok, L_dok, L_eqv]; rfl
open Classical in
theorem L_ne (x y : Q d) : evCmp .ne (L x) (L y) = some (!decide (x = y)) := by
  have h : evCmp .ne (L x) (L y) = if dok (L x) && dok (L y) then some (!PyData.eqv (L x) (L y)) else none := rfl
  rw [h, L_dok, L_dok, L_eqv]; rfl
/-- size -/
structure Sz (k : Nat) (x : Q d) : Prop where
  p : x.p.natAbs < 2 ^ k
  q : x.q.natAbs < 2 ^ k
  s : x.s.natAbs < 2 ^ k
theorem Sz.mono {k l : Nat} {x : Q d} (h : Sz k x) (hl : k ≤ l) : Sz l x := by
  have e : 2 ^ k ≤ 2 ^ l := Nat.pow_le_pow_right (by decide) hl
  exact ⟨Nat.lt_of_lt_of_le h.p e, Nat.lt_of_lt_of_le h.q e, Nat.lt_of_lt_of_le h.s e⟩
/-- a number that has a form p, q, s of a size -/
theorem Sz.of {k : Nat} {p q s : Int} (h0 : s ≠ 0) (h1 : p.natAbs < 2 ^ k) (h2 : q.natAbs < 2 ^ k) (h3 : s.natAbs < 2 ^ k) : Sz k (mkQ d p q s) := by
  obtain ⟨e1, e2, e3⟩ := nz_rep (d := d) (p := p) (q := q) h0
  obtain ⟨d1, d2, d3⟩ := dv_dvd p q s
  have key : ∀ {a c : Int}, c ∣ a → (a / c).natAbs ≤ a.natAbs := fun {a c} h => by
    obtain ⟨b, rfl⟩ := h
    by_cases hc : c = 0
    · subst hc; simp
    · rw [Int.mul_ediv_cancel_left _ hc, Int.natAbs_mul]
      exact Nat.le_mul_of_pos_left _ (by omega)
  exact ⟨by rw [← e1]; exact Nat.lt_of_le_of_lt (key d1) h1, by rw [← e2]; exact Nat.lt_of_le_of_lt (key d2) h2, by rw [← e3]; exact Nat.lt_of_le_of_lt (key d3) h3⟩
theorem dv_le {p q s : Int} (h0 : s ≠ 0) : (dv p q s).natAbs ≤ s.natAbs := by
  obtain ⟨_, _, b, e⟩ := dv_dvd p q s
  have : s.natAbs = (dv p q s).natAbs * b.natAbs := by rw [← Int.natAbs_mul, ← e]
  rw [this]
  refine Nat.le_mul_of_pos_right _ ?_
  have hb : b ≠ 0 := fun z => h0 (by rw [e, z, Int.mul_zero])
  omega
end
theorem nat_mul_lt {a b : Int} {k l : Nat} (ha : a.natAbs < 2 ^ k) (hb : b.natAbs < 2 ^ l) : (a * b).natAbs < 2 ^ (k + l) := by
  rw [Int.natAbs_mul, Nat.pow_add]
  exact Nat.mul_lt_mul'' ha hb
theorem nat_add_lt {a b : Int} {k : Nat} (ha : a.natAbs < 2 ^ k) (hb : b.natAbs < 2 ^ k) : (a + b).natAbs < 2 ^ (k + 1) := by
  rw [Nat.pow_succ]; omega
theorem nat_lt_mono {a : Int} {k l : Nat} (ha : a.natAbs < 2 ^ k) (h : k ≤ l) : a.natAbs < 2 ^ l := Nat.lt_of_lt_of_le ha (Nat.pow_le_pow_right (by decide) h)
end PV
namespace PV
open PySem L2 Qu
section
variable {d : Nat}
/-- the sign, by the three numbers -/
theorem sgn_pos [NSq d] {x : Q d} (h : 0 < x) : sgn x = 1 := by unfold sgn; rw [if_pos h]
theorem sgn_zero [NSq d] : sgn (0 : Q d) = 0 := by
  unfold sgn
  rw [if_neg (by grind), if_pos rfl]
theorem sgn_neg [NSq d] {x : Q d} (h : x < 0) : sgn x = -1 := by
  unfold sgn
  rw [if_neg (by grind), if_neg (by grind)]
theorem sgn_cases [NSq d] (x : Q d) : (0 < x ∧ sgn x = 1) ∨ (x = 0 ∧ sgn x = 0) ∨ (x < 0 ∧ sgn x = -1) := by
  rcases (show 0 < x ∨ x = 0 ∨ x < 0 by grind) with h | h | h
  · exact .inl ⟨h, sgn_pos h⟩
  · exact .inr (.inl ⟨h, by rw [h]; exact sgn_zero⟩)
  · exact .inr (.inr ⟨h, sgn_neg h⟩)
theorem sgn_int [NSq d] (x : Q d) : sgn x = if 0 ≤ x.p ∧ 0 ≤ x.q then (if 0 < x.p + x.q then 1 else 0) else if x.p ≤ 0 ∧ x.q ≤ 0 then -1 else (if x.p < 0 then -1 else 1) * (if x.p * x.p - (d : Int) * x.q * x.q < 0 then -1 else 1) := by
  have hp := pos_int x
  have hz := zero_int (x := x)
  have hn : x ≠ 0 → x.p * x.p - (d : Int) * x.q * x.q ≠ 0 := fun h => nrm_int_ne h
  have mul0 : x.p = 0 → x.p * x.p = 0 := fun h => by rw [h]; rfl
  have mul1 : x.q = 0 → (d : Int) * x.q * x.q = 0 := fun h => by rw [h]; simp
  have sq : ∀ a : Int, 0 ≤ a * a := fun a => by
    rcases Int.le_total 0 a with h | h
    · exact Int.mul_nonneg h h
    · exact Int.mul_nonneg_of_nonpos_of_nonpos h h
  have hA := sq x.p
  have hB : 0 ≤ (d : Int) * x.q * x.q := by rw [Int.mul_assoc]; exact Int.mul_nonneg (by omega) (sq x.q)
  generalize x.p * x.p = A at *
  generalize (d : Int) * x.q * x.q = B at *
  have key : ∀ (s : Int), (0 < x → s = 1) → (x = 0 → s = 0) → (x ≠ 0 → ¬ 0 < x → s = -1) → sgn x = s := by
    intro s h1 h2 h3
    rcases sgn_cases x with ⟨h, e⟩ | ⟨h, e⟩ | ⟨h, e⟩
    · rw [e, h1 h]
    · rw [e, h2 h]
    · rw [e, h3 (by grind) (by grind)]
  apply key
  · intro h
    have h2 := hp.mp h
    have hne : x ≠ 0 := by grind
    have hne2 : ¬ (x.p = 0 ∧ x.q = 0) := fun z => hne (hz.mpr z)
    by_cases c1 : 0 ≤ x.p ∧ 0 ≤ x.q
    · rw [if_pos c1, if_pos (by omega)]
    · rw [if_neg c1]
      by_cases c2 : x.p ≤ 0 ∧ x.q ≤ 0
      · exfalso; omega
      · rw [if_neg c2]
        by_cases c3 : x.p < 0
        · rw [if_pos c3, if_pos (by omega)]; rfl
        · rw [if_neg c3, if_neg (by omega)]; rfl
  · intro h
    obtain ⟨a, b⟩ := hz.mp h
    rw [if_pos (by omega), if_neg (by omega)]
  · intro h0 h
    have h2 := mt hp.mpr h
    have h3 := hn h0
    have hne2 : ¬ (x.p = 0 ∧ x.q = 0) := fun z => h0 (hz.mpr z)
    by_cases c1 : 0 ≤ x.p ∧ 0 ≤ x.q
    · exfalso; omega
    · rw [if_neg c1]
      by_cases c2 : x.p ≤ 0 ∧ x.q ≤ 0
      · rw [if_pos c2]
      · rw [if_neg c2]
        by_cases c3 : x.p < 0
        · rw [if_pos c3, if_neg (by omega)]; rfl
        · rw [if_neg c3, if_pos (by omega)]; rfl
theorem over_form [NSq d] {x y : Q d} (hy : y ≠ 0) : (x * y.conj).s * (y * y.conj).p ≠ 0 ∧ mkQ d ((x * y.conj).p * (y * y.conj).s) ((x * y.conj).q * (y * y.conj).s) ((x * y.conj).s * (y * y.conj).p) = x / y := by
  have hb : (y * y.conj).b = 0 := by
    show y.a * -y.b + y.b * y.a = 0
    grind
  have ha : (y * y.conj).a = y.nrm := by
    show y.a * y.a + (d : Rat) * (y.b * -y.b) = y.nrm
    unfold Q.nrm
    grind
  have hn := Q.nrm_ne hy
  have hs := sq_ne (y * y.conj)
  have h1 := xa (y * y.conj)
  have hp : ((y * y.conj).p : Rat) ≠ 0 := by rw [← h1, ha]; grind
  have hp2 : (y * y.conj).p ≠ 0 := fun e => hp (by rw [e]; rfl)
  have hs2 := s_pos (x * y.conj)
  have h0 : (x * y.conj).s * (y * y.conj).p ≠ 0 := fun e => by
    rcases Int.mul_eq_zero.mp e with e | e
    · omega
    · exact hp2 e
  refine ⟨h0, ?_⟩
  have key : (x / y) * (y * y.conj) = x * y.conj := by grind
  have ka := congrArg Q.a key
  have kb := congrArg Q.b key
  rw [Q.mul_a, hb] at ka
  rw [Q.mul_b, hb] at kb
  have g1 := xa (x * y.conj)
  have g2 := xb (x * y.conj)
  apply mkQ_of h0
  · rw [Rat.intCast_mul, Rat.intCast_mul, ← g1, ← h1, ← ka]; grind
  · rw [Rat.intCast_mul, Rat.intCast_mul, ← g2, ← h1, ← kb]; grind
end
end PV

set_option Elab.async false
set_option linter.all false
set_option maxRecDepth 100000
set_option maxHeartbeats 4000000
/-! PVW: numbers of a common denominator, in bounds. -/
namespace PV
open PySem L2 Qu
section
variable {d : Nat}
/-- S times the number has whole parts of at most B -/
def Dn (S B : Nat) (x : Q d) : Prop := ∃ m n : Int, x.a * (S : Rat) = (m : Rat) ∧ x.b * (S : Rat) = (n : Rat) ∧ m.natAbs ≤ B ∧ n.natAbs ≤ B
theorem natR {S : Nat} (h : 0 < S) : ((S : Int) : Rat) ≠ 0 := cast_ne (by omega)
theorem Dn.sz {S B k : Nat} {x : Q d} (h : Dn S B x) (h0 : 0 < S) (hS : S < 2 ^ k) (hB : B < 2 ^ k) : Sz k x := by
  obtain ⟨m, n, h1, h2, h3, h4⟩ := h
  have e : mkQ d m n (S : Int) = x := mkQ_of (by omega) h1 h2
  rw [← e]
  exact Sz.of (by omega) (by omega) (by omega) (by omega)
theorem Dn.mono {S B C : Nat} {x : Q d} (h : Dn S B x) (hB : B ≤ C) : Dn S C x := by
  obtain ⟨m, n, h1, h2, h3, h4⟩ := h
  exact ⟨m, n, h1, h2, by omega, by omega⟩
theorem Dn.add {S B C : Nat} {x y : Q d} (h : Dn S B x) (g : Dn S C y) : Dn S (B + C) (x + y) := by
  obtain ⟨m, n, h1, h2, h3, h4⟩ := h
  obtain ⟨m', n', g1, g2, g3, g4⟩ := g
  refine ⟨m + m', n + n', ?_, ?_, by omega, by omega⟩
  · rw [Q.add_a, Rat.intCast_add, ← h1, ← g1]; grind
  · rw [Q.add_b, Rat.intCast_add, ← h2, ← g2]; grind
theorem Dn.neg {S B : Nat} {x : Q d} (h : Dn S B x) : Dn S B (-x) := by
  obtain ⟨m, n, h1, h2, h3, h4⟩ := h
  refine ⟨-m, -n, ?_, ?_, by omega, by omega⟩
  · rw [Q.neg_a, Rat.intCast_neg, ← h1]; grind
  · rw [Q.neg_b, Rat.intCast_neg, ← h2]; grind
theorem Dn.sub {S B C : Nat} {x y : Q d} (h : Dn S B x) (g : Dn S C y) : Dn S (B + C) (x - y) := by
  have e : x - y = x + -y := by grind
  rw [e]; exact h.add g.neg
theorem Dn.conj {S B : Nat} {x : Q d} (h : Dn S B x) : Dn S B x.conj := by
  obtain ⟨m, n, h1, h2, h3, h4⟩ := h
  refine ⟨m, -n, h1, ?_, by omega, by omega⟩
  show -x.b * (S : Rat) = _
  rw [Rat.intCast_neg, ← h2]; grind
theorem Dn.scale {S B : Nat} {x : Q d} (h : Dn S B x) (k : Nat) : Dn (S * k) (B * k) x := by
  obtain ⟨m, n, h1, h2, h3, h4⟩ := h
  have ek : ((k : Int) : Rat) = (k : Rat) := Rat.intCast_natCast k
  have em : ∀ a : Int, (a * (k : Int)).natAbs = a.natAbs * k := fun a => by rw [Int.natAbs_mul, Int.natAbs_natCast]
  refine ⟨m * k, n * k, ?_, ?_, by rw [em]; exact Nat.mul_le_mul_right k h3, by rw [em]; exact Nat.mul_le_mul_right k h4⟩
  · rw [Rat.intCast_mul, ← h1, Rat.natCast_mul, ek]; grind
  · rw [Rat.intCast_mul, ← h2, Rat.natCast_mul, ek]; grind
theorem Dn.up {S T B k : Nat} {x : Q d} (h : Dn S B x) (e : T = S * k) : Dn T (B * k) x := by subst e; exact h.scale k
theorem Dn.mul {S T B C : Nat} {x y : Q d} (h : Dn S B x) (g : Dn T C y) : Dn (S * T) ((d + 2) * (B * C)) (x * y) := by
  obtain ⟨m, n, h1, h2, h3, h4⟩ := h
  obtain ⟨m', n', g1, g2, g3, g4⟩ := g
  have pr : ∀ {a b : Int} {A C : Nat}, a.natAbs ≤ A → b.natAbs ≤ C → (a * b).natAbs ≤ A * C := fun {a b A C} h1 h2 => by rw [Int.natAbs_mul]; exact Nat.mul_le_mul h1 h2
  refine ⟨m * m' + (d : Int) * (n * n'), m * n' + n * m', ?_, ?_, ?_, ?_⟩
  · rw [Q.mul_a, Rat.intCast_add, Rat.intCast_mul, Rat.intCast_mul, Rat.intCast_mul, ← h1, ← g1, ← h2, ← g2, Rat.natCast_mul, Rat.intCast_natCast]; grind
  · rw [Q.mul_b, Rat.intCast_add, Rat.intCast_mul, Rat.intCast_mul, ← h1, ← g1, ← h2, ← g2, Rat.natCast_mul]; grind
  · have e1 := pr h3 g3
    have e2 := pr h4 g4
    have e3 : ((d : Int) * (n * n')).natAbs ≤ d * (B * C) := by rw [Int.natAbs_mul, Int.natAbs_natCast]; exact Nat.mul_le_mul_left d e2
    rw [Nat.add_mul]
    omega
  · have e1 := pr h3 g4
    have e2 := pr h4 g3
    rw [Nat.add_mul]
    omega
/-- a fraction -/
def F (r : Rat) : Q d := ⟨r, 0⟩
theorem F_add (r t : Rat) : (F r : Q d) + F t = F (r + t) := ext' rfl (by show (0 : Rat) + 0 = 0; grind)
theorem F_mul (r t : Rat) : (F r : Q d) * F t = F (r * t) := ext' (by show r * t + (d : Rat) * (0 * 0) = r * t; grind) (by show r * 0 + 0 * t = (0 : Rat); grind)
theorem F_inj {r t : Rat} : (F r : Q d) = F t ↔ r = t := ⟨fun h => congrArg Q.a h, fun h => by rw [h]⟩
theorem F_zero : (F 0 : Q d) = 0 := rfl
theorem F_form {x : Q d} : mkQ d x.p 0 x.s = F x.a ∧ mkQ d x.q 0 x.s = F x.b := by
  have hs := s_pos x
  have z : ((0 : Int) : Rat) = 0 := rfl
  constructor
  · exact mkQ_of (by omega) (xa x) (by show (0 : Rat) * _ = _; rw [z]; grind)
  · exact mkQ_of (by omega) (xb x) (by show (0 : Rat) * _ = _; rw [z]; grind)
theorem F_form2 {x y : Q d} {p q : Int} {r t : Rat} (h1 : r * (x.s : Rat) = (p : Rat)) (h2 : t * (y.s : Rat) = (q : Rat)) : mkQ d (p * q + (d : Int) * 0 * 0) (p * 0 + 0 * q) (x.s * y.s) = F (r * t) := by
  have hs : x.s * y.s ≠ 0 := by have := Int.mul_pos (s_pos x) (s_pos y); omega
  have z : ((0 : Int) : Rat) = 0 := rfl
  have e1 : p * q + (d : Int) * 0 * 0 = p * q := by simp
  have e2 : p * 0 + 0 * q = 0 := by simp
  rw [e1, e2]
  refine mkQ_of hs ?_ ?_
  · show r * t * _ = _
    rw [Rat.intCast_mul, Rat.intCast_mul, ← h1, ← h2]; grind
  · show (0 : Rat) * _ = _
    rw [z]; grind
theorem Dn.fa {S B : Nat} {x : Q d} (h : Dn S B x) : Dn S B (F x.a : Q d) := by
  obtain ⟨m, n, h1, h2, h3, h4⟩ := h
  exact ⟨m, 0, h1, by show (0 : Rat) * _ = ((0 : Int) : Rat); have z : ((0 : Int) : Rat) = 0 := rfl; rw [z]; grind, h3, by omega⟩
theorem Dn.fb {S B : Nat} {x : Q d} (h : Dn S B x) : Dn S B (F x.b : Q d) := by
  obtain ⟨m, n, h1, h2, h3, h4⟩ := h
  exact ⟨n, 0, h2, by show (0 : Rat) * _ = ((0 : Int) : Rat); have z : ((0 : Int) : Rat) = 0 := rfl; rw [z]; grind, h4, by omega⟩
theorem Dn.zero {S : Nat} : Dn S 0 (0 : Q d) := ⟨0, 0, by show (0 : Rat) * _ = ((0 : Int) : Rat); have z : ((0 : Int) : Rat) = 0 := rfl; rw [z]; grind, by show (0 : Rat) * _ = ((0 : Int) : Rat); have z : ((0 : Int) : Rat) = 0 := rfl; rw [z]; grind, by decide, by decide⟩
/-- of fractions alone the product is smaller -/
theorem Dn.fmul {S T B C : Nat} {r t : Rat} (h : Dn S B (F r : Q d)) (g : Dn T C (F t : Q d)) : Dn (S * T) (B * C) (F (r * t) : Q d) := by
  obtain ⟨m, n, h1, h2, h3, h4⟩ := h
  obtain ⟨m', n', g1, g2, g3, g4⟩ := g
  have h1 : r * (S : Rat) = (m : Rat) := h1
  have g1 : t * (T : Rat) = (m' : Rat) := g1
  refine ⟨m * m', 0, ?_, ?_, by rw [Int.natAbs_mul]; exact Nat.mul_le_mul h3 g3, by omega⟩
  · show r * t * _ = _
    rw [Rat.intCast_mul, ← h1, ← g1, Rat.natCast_mul]; grind
  · show (0 : Rat) * _ = ((0 : Int) : Rat)
    have z : ((0 : Int) : Rat) = 0 := rfl
    rw [z]; grind
end
end PV
namespace PV
open PySem L2 Qu
/-! explicit lists -/
theorem q_cg1 {f : PyData → Option (Option PyData)} : compGo f [] = some [] := Eq.trans rfl (Eq.refl _)
theorem q_cg2 {f : PyData → Option (Option PyData)} {x : PyData} {xs : List PyData} : compGo f (x :: xs) = match f x with
    | none => none
    | some none => compGo f xs
    | some (some y) => match compGo f xs with
      | none => none
      | some ys => some (y :: ys) := Eq.trans rfl (Eq.refl _)
theorem q_ch1 {f : PyData → Option (List PyData)} : compGo2 f [] = some [] := Eq.trans rfl (Eq.refl _)
theorem q_ch2 {f : PyData → Option (List PyData)} {x : PyData} {xs : List PyData} : compGo2 f (x :: xs) = match f x with
    | none => none
    | some zs => match compGo2 f xs with
      | none => none
      | some ys => some (zs ++ ys) := Eq.trans rfl (Eq.refl _)
theorem q_fg1 {g : G} {f : Sl → Option Out} {ρ : Sl} : forGo g f [] ρ = some (.nx ρ) := Eq.trans rfl (Eq.refl _)
theorem q_fg2 {g : G} {f : Sl → Option Out} {x : PyData} {xs : List PyData} {ρ : Sl} : forGo g f (x :: xs) ρ = match asg g x ρ with
    | none => none
    | some ρ1 => match f ρ1 with
      | some (.nx ρ2) => forGo g f xs ρ2
      | some (.ct ρ2) => forGo g f xs ρ2
      | some (.bk ρ2) => some (.nx ρ2)
      | some (.rt r) => some (.rt r)
      | none => none := Eq.trans rfl (Eq.refl _)
theorem q_blk {n : Nat} {b : Ss} {ρ : Sl} : blk n b ρ = evSs n b ρ := Eq.trans rfl (Eq.refl _)
theorem r_1 : evRng [.int 1] = some [.int 0] := by rfl
theorem r_2 : evRng [.int 2] = some [.int 0, .int 1] := by rfl
theorem r_3 : evRng [.int 3] = some [.int 0, .int 1, .int 2] := by rfl
theorem r_4 : evRng [.int 4] = some [.int 0, .int 1, .int 2, .int 3] := by rfl
section
variable {a b c e : PyData} {l : List PyData}
theorem ix_l0 : evIx (.list (a :: l)) (.int 0) = some (false, a) := by
  have : evIx (.list (a :: l)) (.int ((0 : Nat) : Int)) = some (false, a) := by show (L2.atI (a :: l) ((0 : Nat) : Int)).map _ = _; rw [atI_N]; rfl
  exact this
theorem ix_l1 : evIx (.list (a :: b :: l)) (.int 1) = some (false, b) := by
  have : evIx (.list (a :: b :: l)) (.int ((1 : Nat) : Int)) = some (false, b) := by show (L2.atI (a :: b :: l) ((1 : Nat) : Int)).map _ = _; rw [atI_N]; rfl
  exact this
theorem ix_l2 : evIx (.list (a :: b :: c :: l)) (.int 2) = some (false, c) := by
  have : evIx (.list (a :: b :: c :: l)) (.int ((2 : Nat) : Int)) = some (false, c) := by show (L2.atI (a :: b :: c :: l) ((2 : Nat) : Int)).map _ = _; rw [atI_N]; rfl
  exact this
theorem ix_l3 : evIx (.list (a :: b :: c :: e :: l)) (.int 3) = some (false, e) := by
  have : evIx (.list (a :: b :: c :: e :: l)) (.int ((3 : Nat) : Int)) = some (false, e) := by show (L2.atI (a :: b :: c :: e :: l) ((3 : Nat) : Int)).map _ = _; rw [atI_N]; rfl
  exact this
theorem ix_t0 : evIx (.tuple (a :: l)) (.int 0) = some (false, a) := ix_l0
theorem ix_t1 : evIx (.tuple (a :: b :: l)) (.int 1) = some (false, b) := ix_l1
theorem ix_t2 : evIx (.tuple (a :: b :: c :: l)) (.int 2) = some (false, c) := ix_l2
theorem ix_t3 : evIx (.tuple (a :: b :: c :: e :: l)) (.int 3) = some (false, e) := ix_l3
end
/-! sums -/
def rs : List Rat → Rat
  | [] => 0
  | x :: l => x + rs l
theorem rs_append : ∀ l r : List Rat, rs (l ++ r) = rs l + rs r
  | [], r => by show rs r = 0 + rs r; grind
  | x :: l, r => by show x + rs (l ++ r) = x + rs l + rs r; rw [rs_append l r]; grind
theorem rs_perm {l r : List Rat} (h : l.Perm r) : rs l = rs r := by
  induction h with
  | nil => rfl
  | cons x _ ih => show x + _ = x + _; rw [ih]
  | swap x y l => show y + (x + rs l) = x + (y + rs l); grind
  | trans _ _ a b => exact a.trans b
end PV
namespace PV
open PySem L2 Qu
/-! data without truth values: to be the same is to be equal -/
mutual
def hard : PyData → Bool
  | .list xs => hardA xs
  | .tuple xs => hardA xs
  | .none => true
  | .int _ => true
  | .str _ => true
  | .bool _ => false
  | .dict _ => false
def hardA : List PyData → Bool
  | [] => true
  | x :: xs => hard x && hardA xs
end
mutual
theorem hard_plain : ∀ a : PyData, hard a = true → a.plain = true
  | .list xs, h => by
    rw [hard] at h
    have := hardA_plain xs h
    simpa [PyData.plain] using this
  | .tuple xs, h => by
    rw [hard] at h
    have := hardA_plain xs h
    simpa [PyData.plain] using this
  | .none, _ => by simp [PyData.plain]
  | .int _, _ => by simp [PyData.plain]
  | .str _, _ => by simp [PyData.plain]
  | .bool _, h => by simp [hard] at h
  | .dict _, h => by simp [hard] at h
theorem hardA_plain : ∀ a : List PyData, hardA a = true → PyData.plainAll a = true
  | [], _ => by simp [PyData.plainAll]
  | x :: xs, h => by
    rw [hardA, Bool.and_eq_true] at h
    simp only [PyData.plainAll, hard_plain x h.1, hardA_plain xs h.2, Bool.and_true]
end
mutual
theorem eqv_hard : ∀ a b : PyData, hard a = true → hard b = true → PyData.eqv a b = true → a = b
  | .list xs, b, h, h', e => by
    cases b <;> simp only [PyData.eqv] at e <;> try exact absurd e Bool.false_ne_true
    rw [hard] at h h'
    rw [eqvA_hard _ _ h h' e]
  | .tuple xs, b, h, h', e => by
    cases b <;> simp only [PyData.eqv] at e <;> try exact absurd e Bool.false_ne_true
    rw [hard] at h h'
    rw [eqvA_hard _ _ h h' e]
  | .none, b, h, h', e => by
    cases b <;> simp only [PyData.eqv] at e <;> first | rfl | exact absurd e Bool.false_ne_true
  | .int i, b, h, h', e => by
    cases b <;> simp only [PyData.eqv] at e <;> try exact absurd e Bool.false_ne_true
    · simp [hard] at h'
    · rw [eq_of_beq e]
  | .str i, b, h, h', e => by
    cases b <;> simp only [PyData.eqv] at e <;> try exact absurd e Bool.false_ne_true
    rw [eq_of_beq e]
  | .bool _, _, h, _, _ => by simp [hard] at h
  | .dict _, _, h, _, _ => by simp [hard] at h
theorem eqvA_hard : ∀ a b : List PyData, hardA a = true → hardA b = true → PyData.eqvAll a b = true → a = b
  | [], [], _, _, _ => rfl
  | [], _ :: _, _, _, e => by simp [PyData.eqvAll] at e
  | _ :: _, [], _, _, e => by simp [PyData.eqvAll] at e
  | x :: xs, y :: ys, h, h', e => by
    rw [hardA, Bool.and_eq_true] at h h'
    simp only [PyData.eqvAll, Bool.and_eq_true] at e
    rw [eqv_hard x y h.1 h'.1 e.1, eqvA_hard xs ys h.2 h'.2 e.2]
end
structure Hd (k : Nat) (d : PyData) : Prop where
  dp : d.depth ≤ k
  hd : hard d = true
theorem Hd.dok {k : Nat} {d : PyData} (h : Hd k d) (hk : k ≤ 50) : dok d = true := by
  unfold PV.dok
  rw [Bool.and_eq_true]
  exact ⟨Nat.ble_eq_true_of_le (Nat.le_trans h.dp hk), hard_plain d h.hd⟩
theorem hd_int {k : Nat} (i : Int) : Hd k (.int i) := ⟨by simp [PyData.depth], by simp [hard]⟩
theorem hd_none {k : Nat} : Hd k .none := ⟨by simp [PyData.depth], by simp [hard]⟩
theorem hd_all {k : Nat} : ∀ {ds : List PyData}, (∀ d ∈ ds, Hd k d) → PyData.depthAll ds ≤ k ∧ hardA ds = true
  | [], _ => ⟨by simp [PyData.depthAll], by simp [hardA]⟩
  | x :: xs, h => by
    have h1 := h x List.mem_cons_self
    have h2 := hd_all fun y hy => h y (List.mem_cons_of_mem _ hy)
    refine ⟨?_, by rw [hardA, h1.hd, h2.2]; rfl⟩
    simp only [PyData.depthAll]
    have := h1.dp
    omega
theorem hd_list {k : Nat} {ds : List PyData} (h : ∀ d ∈ ds, Hd k d) : Hd (k + 1) (.list ds) := by
  have h2 := hd_all h
  exact ⟨by simp only [PyData.depth]; omega, by rw [hard]; exact h2.2⟩
theorem hd_tuple {k : Nat} {ds : List PyData} (h : ∀ d ∈ ds, Hd k d) : Hd (k + 1) (.tuple ds) := by
  have h2 := hd_all h
  exact ⟨by simp only [PyData.depth]; omega, by rw [hard]; exact h2.2⟩
theorem hd_map {α : Type} {k : Nat} {enc : α → PyData} {l : List α} (h : ∀ x, Hd k (enc x)) : ∀ d ∈ l.map enc, Hd k d := fun d hd => by
  obtain ⟨x, _, rfl⟩ := List.mem_map.mp hd
  exact h x
theorem hd_nil {k : Nat} : ∀ d ∈ ([] : List PyData), Hd k d := fun _ h => nomatch h
theorem hd_cons {k : Nat} {x : PyData} {xs : List PyData} (h : Hd k x) (t : ∀ d ∈ xs, Hd k d) : ∀ d ∈ x :: xs, Hd k d := fun d hd => by
  rcases List.mem_cons.mp hd with rfl | hd
  · exact h
  · exact t d hd
theorem hd_L {d : Nat} (x : Q d) : Hd 1 (L x) := hd_tuple (k := 0) (hd_cons (hd_int _) (hd_cons (hd_int _) (hd_cons (hd_int _) hd_nil)))
open Classical in
theorem hd_eqv {k l : Nat} {a b : PyData} (h : Hd k a) (g : Hd l b) : PyData.eqv a b = decide (a = b) := by
  rw [Bool.eq_iff_iff, decide_eq_true_eq]
  exact ⟨eqv_hard a b h.hd g.hd, fun e => by rw [e]; exact SeqAt.eqv_refl_plain b (hard_plain b g.hd)⟩
open Classical in
theorem hd_eq {k l : Nat} {a b : PyData} (h : Hd k a) (g : Hd l b) (hk : k ≤ 50) (hl : l ≤ 50) : evCmp .eq a b = some (decide (a = b)) := by
  have d1 := h.dok hk
  have d2 := g.dok hl
  have fin : (if dok a && dok b then some (PyData.eqv a b) else none) = some (decide (a = b)) := by rw [d1, d2, hd_eqv h g]; rfl
  cases a with
  | int i =>
    cases b with
    | int j => rw [i_eq]; congr 1; rw [Bool.eq_iff_iff, decide_eq_true_eq, decide_eq_true_eq]; exact ⟨fun e => by rw [e], fun e => by injection e⟩
    | _ => exact fin
  | _ => exact fin
open Classical in
theorem hd_ne {k l : Nat} {a b : PyData} (h : Hd k a) (g : Hd l b) (hk : k ≤ 50) (hl : l ≤ 50) : evCmp .ne a b = some (!decide (a = b)) := by
  have d1 := h.dok hk
  have d2 := g.dok hl
  have fin : (if dok a && dok b then some (!PyData.eqv a b) else none) = some (!decide (a = b)) := by rw [d1, d2, hd_eqv h g]; rfl
  cases a with
  | int i =>
    cases b with
    | int j => rw [i_ne]; congr 2; rw [Bool.eq_iff_iff, decide_eq_true_eq, decide_eq_true_eq]; exact ⟨fun e => by rw [e], fun e => by injection e⟩
    | _ => exact fin
  | _ => exact fin
theorem hd_ne_self {k : Nat} {a : PyData} (h : Hd k a) (hk : k ≤ 50) : evCmp .ne a a = some false := by
  classical
  rw [hd_ne h h hk hk, decide_eq_true rfl]; rfl
theorem hd_eq_self {k : Nat} {a : PyData} (h : Hd k a) (hk : k ≤ 50) : evCmp .eq a a = some true := by
  classical
  rw [hd_eq h h hk hk, decide_eq_true rfl]
theorem map_inj {α : Type} {enc : α → PyData} (h : ∀ x y, enc x = enc y → x = y) : ∀ {l r : List α}, l.map enc = r.map enc → l = r
  | [], [], _ => rfl
  | [], _ :: _, e => nomatch e
  | _ :: _, [], e => nomatch e
  | x :: l, y :: r, e => by
    rw [List.map_cons, List.map_cons] at e
    injection e with e1 e2
    rw [h x y e1, map_inj h e2]
theorem rep_4 (a : PyData) : evBin .mul (.list [a]) (.int 4) = some (true, .list [a, a, a, a]) := by rfl
theorem int_F {d : Nat} (n : Int) : ((n : Int) : Q d) = F (n : Rat) := rfl
theorem dn_mk {d : Nat} {p q : Int} {s k P : Nat} (hs : 0 < s) (hp : p.natAbs ≤ P) (hq : q.natAbs ≤ P) : Dn (s * k) (P * k) (mkQ d p q (s : Int)) := by
  have hs0 : (s : Rat) ≠ 0 := by
    have : ((s : Int) : Rat) ≠ 0 := cast_ne (by omega)
    rwa [Rat.intCast_natCast] at this
  have em : ∀ a : Int, (a * (k : Int)).natAbs = a.natAbs * k := fun a => by rw [Int.natAbs_mul, Int.natAbs_natCast]
  refine ⟨p * k, q * k, ?_, ?_, by rw [em]; exact Nat.mul_le_mul_right k hp, by rw [em]; exact Nat.mul_le_mul_right k hq⟩
  · show (p : Rat) / ((s : Int) : Rat) * _ = _
    rw [Rat.intCast_mul, Rat.natCast_mul, Rat.intCast_natCast, Rat.intCast_natCast]; grind
  · show (q : Rat) / ((s : Int) : Rat) * _ = _
    rw [Rat.intCast_mul, Rat.natCast_mul, Rat.intCast_natCast, Rat.intCast_natCast]; grind
end PV

set_option Elab.async false
set_option linter.all false
set_option maxRecDepth 100000
set_option maxHeartbeats 4000000
/-! PVS: the drawn roots are no squares. -/
namespace PV
open PySem L2 Qu
theorem sq_dvd {P Q : Nat} (h : Q * Q ∣ P * P) : Q ∣ P := by
  have h2 : Q ^ 2 ∣ P ^ 2 := by rw [Nat.pow_two, Nat.pow_two]; exact h
  exact (Nat.pow_dvd_pow_iff (by decide)).mp h2
theorem nsq_of {d : Nat} (h : ∀ r : Nat, r * r ≠ d) : NSq d where
  ns a b e := Classical.byContradiction fun hb => by
    have ha := rat_eq a
    have hb2 := rat_eq b
    have da : (a.den : Rat) ≠ 0 := by have := a.den_nz; exact_mod_cast this
    have db : (b.den : Rat) ≠ 0 := by have := b.den_nz; exact_mod_cast this
    have hn : b.num ≠ 0 := fun z => hb (by
      have : (b.num : Rat) = 0 := by rw [z]; rfl
      rw [this] at hb2
      grind)
    have e2 : ((a.num * b.den : Int) : Rat) * ((a.num * b.den : Int) : Rat) = (d : Rat) * (((b.num * a.den : Int) : Rat) * ((b.num * a.den : Int) : Rat)) := by
      rw [Rat.intCast_mul, Rat.intCast_mul, ← ha, ← hb2, Rat.intCast_natCast, Rat.intCast_natCast]
      grind
    have hq : b.num * (a.den : Int) ≠ 0 := fun z => by
      rcases Int.mul_eq_zero.mp z with z | z
      · exact hn z
      · have := a.den_nz; omega
    generalize a.num * (b.den : Int) = X at e2
    generalize b.num * (a.den : Int) = Y at e2 hq
    have e3 : X * X = (d : Int) * (Y * Y) := by
      have : ((X * X : Int) : Rat) = (((d : Int) * (Y * Y) : Int) : Rat) := by
        rw [Rat.intCast_mul, Rat.intCast_mul, Rat.intCast_mul, Rat.intCast_natCast]
        exact e2
      exact_mod_cast this
    have e4 := congrArg Int.natAbs e3
    rw [Int.natAbs_mul, Int.natAbs_mul, Int.natAbs_mul, Int.natAbs_natCast] at e4
    have hq : Y.natAbs ≠ 0 := by omega
    generalize X.natAbs = X at *
    generalize Y.natAbs = Y at *
    obtain ⟨r, hr⟩ := sq_dvd (P := X) (Q := Y) ⟨d, by rw [e4, Nat.mul_comm]⟩
    subst hr
    have hy : 0 < Y := Nat.pos_of_ne_zero hq
    apply h r
    have e5 : (Y * Y) * (r * r) = (Y * Y) * d := by
      have : Y * r * (Y * r) = (Y * Y) * (r * r) := by rw [Nat.mul_mul_mul_comm]
      rw [← this, e4, Nat.mul_comm]
    exact Nat.eq_of_mul_eq_mul_left (Nat.mul_pos hy hy) e5
theorem nsq_small {d : Nat} (h8 : d < 64) (h : ∀ r < 8, r * r ≠ d) : NSq d := nsq_of fun r e => by
  by_cases hr : r < 8
  · exact h r hr e
  · have : 8 * 8 ≤ r * r := Nat.mul_le_mul (by omega) (by omega)
    omega
end PV

set_option Elab.async false
set_option linter.all false
set_option maxRecDepth 100000
set_option maxHeartbeats 4000000
/-! PLX: determinants, columns taken away one after the other, solutions; over Q d. -/
namespace LX
open PV Qu
variable {d : Nat}
def sm : Nat → (Nat → Q d) → Q d
  | 0, _ => 0
  | n + 1, f => f 0 + sm n fun i => f (i + 1)
theorem sm_congr : ∀ (n : Nat) {f g : Nat → Q d}, (∀ i, i < n → f i = g i) → sm n f = sm n g
  | 0, _, _, _ => rfl
  | n + 1, f, g, h => by
    show f 0 + _ = g 0 + _
    rw [h 0 (by omega), sm_congr n fun i hi => h (i + 1) (by omega)]
theorem sm_zero : ∀ (n : Nat) {f : Nat → Q d}, (∀ i, i < n → f i = 0) → sm n f = 0
  | 0, _, _ => rfl
  | n + 1, f, h => by
    show f 0 + _ = 0
    rw [h 0 (by omega), sm_zero n fun i hi => h (i + 1) (by omega)]
    grind
theorem sm_add : ∀ (n : Nat) (f g : Nat → Q d), sm n (fun i => f i + g i) = sm n f + sm n g
  | 0, _, _ => by show (0 : Q d) = 0 + 0; grind
  | n + 1, f, g => by
    show f 0 + g 0 + sm n (fun i => f (i + 1) + g (i + 1)) = f 0 + sm n _ + (g 0 + sm n _)
    rw [sm_add n (fun i => f (i + 1)) fun i => g (i + 1)]
    grind
theorem sm_mul (c : Q d) : ∀ (n : Nat) (f : Nat → Q d), sm n (fun i => c * f i) = c * sm n f
  | 0, _ => by show (0 : Q d) = c * 0; grind
  | n + 1, f => by
    show c * f 0 + sm n (fun i => c * f (i + 1)) = c * (f 0 + sm n _)
    rw [sm_mul c n fun i => f (i + 1)]
    grind
theorem sm_last : ∀ (n : Nat) (f : Nat → Q d), sm (n + 1) f = sm n f + f n
  | 0, f => by show f 0 + 0 = 0 + f 0; grind
  | n + 1, f => by
    show f 0 + sm (n + 1) (fun i => f (i + 1)) = f 0 + sm n (fun i => f (i + 1)) + f (n + 1)
    rw [sm_last n fun i => f (i + 1)]
    grind
theorem sm_one {p : Nat} : ∀ (n : Nat) {f : Nat → Q d}, p < n → (∀ i, i < n → i ≠ p → f i = 0) → sm n f = f p
  | 0, _, h, _ => absurd h (by omega)
  | n + 1, f, h, h0 => by
    show f 0 + sm n (fun i => f (i + 1)) = f p
    cases p with
    | zero =>
      rw [sm_zero n fun i hi => h0 (i + 1) (by omega) (by omega)]
      grind
    | succ p =>
      rw [h0 0 (by omega) (by omega), sm_one (p := p) n (by omega) fun i hi hp => h0 (i + 1) (by omega) (by omega)]
      grind
/-- two neighbours exchanged -/
theorem sm_swap {p : Nat} : ∀ (n : Nat) {f g : Nat → Q d}, p + 1 < n → f p = g (p + 1) → f (p + 1) = g p → (∀ i, i < n → i ≠ p → i ≠ p + 1 → f i = g i) → sm n f = sm n g
  | 0, _, _, h, _, _, _ => absurd h (by omega)
  | 1, _, _, h, _, _, _ => absurd h (by omega)
  | n + 2, f, g, h, h1, h2, h3 => by
    cases p with
    | zero =>
      show f 0 + (f 1 + sm n fun i => f (i + 2)) = g 0 + (g 1 + sm n fun i => g (i + 2))
      rw [h1, h2, sm_congr n fun i hi => h3 (i + 2) (by omega) (by omega) (by omega)]
      grind
    | succ p =>
      show f 0 + sm (n + 1) (fun i => f (i + 1)) = g 0 + sm (n + 1) (fun i => g (i + 1))
      rw [h3 0 (by omega) (by omega) (by omega), sm_swap (p := p) (n + 1) (f := fun i => f (i + 1)) (g := fun i => g (i + 1)) (by omega) h1 h2 fun i hi a b => h3 (i + 1) (by omega) (by omega) (by omega)]
def sgn1 : Nat → Q d
  | 0 => 1
  | n + 1 => - sgn1 n
def skip (i r : Nat) : Nat := if r < i then r else r + 1
def det : Nat → (Nat → Nat → Q d) → Q d
  | 0, _ => 1
  | n + 1, A => sm (n + 1) fun i => sgn1 i * (A i 0 * det n fun r c => A (skip i r) (c + 1))
theorem skip_lt {i r n : Nat} (h : r < n) (hi : i < n + 1) : skip i r < n + 1 := by unfold skip; split <;> omega
theorem skip_ne {i r : Nat} : skip i r ≠ i := by unfold skip; split <;> omega
theorem det_congr : ∀ (n : Nat) {A B : Nat → Nat → Q d}, (∀ r c, r < n → c < n → A r c = B r c) → det n A = det n B
  | 0, _, _, _ => rfl
  | n + 1, A, B, h => sm_congr _ fun i hi => by
    show sgn1 i * (A i 0 * _) = sgn1 i * (B i 0 * _)
    rw [h i 0 hi (by omega), det_congr n fun r c hr hc => h _ _ (skip_lt hr hi) (by omega)]
/-- linear by each row -/
theorem det_lin {p : Nat} {t : Q d} : ∀ (n : Nat) {A B C : Nat → Nat → Q d}, p < n → (∀ c, c < n → A p c = B p c + t * C p c) → (∀ r c, r < n → c < n → r ≠ p → A r c = B r c ∧ C r c = B r c) → det n A = det n B + t * det n C
  | 0, _, _, _, h, _, _ => absurd h (by omega)
  | n + 1, A, B, C, hp, h1, h2 => by
    have e : ∀ i, i < n + 1 → sgn1 i * (A i 0 * det n fun r c => A (skip i r) (c + 1)) = sgn1 i * (B i 0 * det n fun r c => B (skip i r) (c + 1)) + t * (sgn1 i * (C i 0 * det n fun r c => C (skip i r) (c + 1))) := fun i hi => by
      by_cases hip : i = p
      · subst hip
        rw [h1 0 (by omega), det_congr n (A := fun r c => A (skip i r) (c + 1)) (B := fun r c => B (skip i r) (c + 1)) fun r c hr hc => (h2 _ _ (skip_lt hr hi) (by omega) skip_ne).1,
          det_congr n (A := fun r c => C (skip i r) (c + 1)) (B := fun r c => B (skip i r) (c + 1)) fun r c hr hc => (h2 _ _ (skip_lt hr hi) (by omega) skip_ne).2]
        grind
      · obtain ⟨a, b⟩ := h2 i 0 hi (by omega) hip
        -- where row p stands
        obtain ⟨p', hp', ep⟩ : ∃ p', p' < n ∧ skip i p' = p := by
          by_cases c : p < i
          · exact ⟨p, by omega, by unfold skip; rw [if_pos c]⟩
          · exact ⟨p - 1, by omega, by unfold skip; rw [if_neg (by omega)]; omega⟩
        have inj : ∀ r, skip i r = p → r = p' := fun r e => by
          rw [← ep] at e
          unfold skip at e
          split at e <;> split at e <;> omega
        have := det_lin (p := p') (t := t) n (A := fun r c => A (skip i r) (c + 1)) (B := fun r c => B (skip i r) (c + 1)) (C := fun r c => C (skip i r) (c + 1)) hp' (fun c hc => by show A (skip i p') (c + 1) = _; rw [ep]; exact h1 (c + 1) (by omega))
          fun r c hr hc hne => h2 _ _ (skip_lt hr hi) (by omega) fun e => hne (inj r e)
        rw [this, a, b]
        grind
    show sm (n + 1) _ = sm (n + 1) _ + t * sm (n + 1) _
    rw [sm_congr _ e, sm_add, sm_mul]
def sw (p r : Nat) : Nat := if r = p then p + 1 else if r = p + 1 then p else r
theorem det_swap {p : Nat} : ∀ (n : Nat) (A : Nat → Nat → Q d), p + 1 < n → det n (fun r c => A (sw p r) c) = - det n A
  | 0, _, h => absurd h (by omega)
  | n + 1, A, h => by
    have neg : ∀ x : Q d, -x = (-1) * x := fun x => by grind
    show sm (n + 1) (fun i => sgn1 i * (A (sw p i) 0 * det n fun r c => A (sw p (skip i r)) (c + 1))) = - sm (n + 1) _
    rw [neg, ← sm_mul]
    have swp : sw p p = p + 1 := by unfold sw; rw [if_pos rfl]
    have swq : sw p (p + 1) = p := by unfold sw; rw [if_neg (by omega), if_pos rfl]
    refine sm_swap (p := p) (n + 1) h ?_ ?_ fun i hi a b => ?_
    · show sgn1 p * (A (sw p p) 0 * det n fun r c => A (sw p (skip p r)) (c + 1)) = (-1) * (- sgn1 p * (A (p + 1) 0 * det n fun r c => A (skip (p + 1) r) (c + 1)))
      rw [swp, det_congr n (A := fun r c => A (sw p (skip p r)) (c + 1)) (B := fun r c => A (skip (p + 1) r) (c + 1)) fun r c hr hc => by
        show A (sw p (skip p r)) (c + 1) = A (skip (p + 1) r) (c + 1)
        congr 1
        unfold sw skip
        repeat' split
        all_goals omega]
      grind
    · show - sgn1 p * (A (sw p (p + 1)) 0 * det n fun r c => A (sw p (skip (p + 1) r)) (c + 1)) = (-1) * (sgn1 p * (A p 0 * det n fun r c => A (skip p r) (c + 1)))
      rw [swq, det_congr n (A := fun r c => A (sw p (skip (p + 1) r)) (c + 1)) (B := fun r c => A (skip p r) (c + 1)) fun r c hr hc => by
        show A (sw p (skip (p + 1) r)) (c + 1) = A (skip p r) (c + 1)
        congr 1
        unfold sw skip
        repeat' split
        all_goals omega]
      grind
    · show sgn1 i * (A (sw p i) 0 * det n fun r c => A (sw p (skip i r)) (c + 1)) = (-1) * (sgn1 i * (A i 0 * det n fun r c => A (skip i r) (c + 1)))
      have swi : sw p i = i := by unfold sw; rw [if_neg a, if_neg b]
      obtain ⟨p', hp', e⟩ : ∃ p', p' + 1 < n ∧ ∀ r, sw p (skip i r) = skip i (sw p' r) := by
        by_cases c : i < p
        · refine ⟨p - 1, by omega, fun r => ?_⟩
          unfold sw skip
          repeat' split
          all_goals omega
        · refine ⟨p, by omega, fun r => ?_⟩
          unfold sw skip
          repeat' split
          all_goals omega
      have := det_swap (p := p') n (fun r c => A (skip i r) (c + 1)) hp'
      rw [swi, det_congr n (A := fun r c => A (sw p (skip i r)) (c + 1)) (B := fun r c => A (skip i (sw p' r)) (c + 1)) fun r c hr hc => by show A (sw p (skip i r)) (c + 1) = _; rw [e], this]
      grind
theorem self_neg {x : Q d} (h : x = -x) : x = 0 := by
  have h1 : x.a = -x.a := congrArg Q.a h
  have h2 : x.b = -x.b := congrArg Q.b h
  exact ext' (by show x.a = 0; grind) (by show x.b = 0; grind)
/-- two rows the same -/
theorem det_eq : ∀ (k : Nat) {n p q : Nat} {A : Nat → Nat → Q d}, q = p + 1 + k → q < n → (∀ c, c < n → A p c = A q c) → det n A = 0
  | 0, n, p, q, A, e, hq, h => by
    subst e
    have h1 := det_swap (p := p) n A hq
    rw [det_congr n (A := fun r c => A (sw p r) c) (B := A) fun r c hr hc => by
      show A (sw p r) c = A r c
      unfold sw
      split
      · rename_i z; rw [z]; exact (h c hc).symm
      · split
        · rename_i z; rw [z]; exact h c hc
        · rfl] at h1
    exact self_neg h1
  | k + 1, n, p, q, A, e, hq, h => by
    have h1 := det_swap (p := q - 1) n A (by omega)
    have h2 := det_eq k (n := n) (p := p) (q := q - 1) (A := fun r c => A (sw (q - 1) r) c) (by omega) (by omega) fun c hc => by
      show A (sw (q - 1) p) c = A (sw (q - 1) (q - 1)) c
      have a : sw (q - 1) p = p := by unfold sw; rw [if_neg (by omega), if_neg (by omega)]
      have b : sw (q - 1) (q - 1) = q := by unfold sw; rw [if_pos rfl]; omega
      rw [a, b]
      exact h c hc
    rw [h2] at h1
    grind
theorem det_eq' {n p q : Nat} {A : Nat → Nat → Q d} (hp : p < n) (hq : q < n) (hne : p ≠ q) (h : ∀ c, c < n → A p c = A q c) : det n A = 0 := by
  rcases Nat.lt_or_gt_of_ne hne with c | c
  · exact det_eq (q - p - 1) (p := p) (q := q) (by omega) hq h
  · exact det_eq (p - q - 1) (p := q) (q := p) (by omega) hp fun c hc => (h c hc).symm
/-- a row that is a sum of rows -/
theorem det_rows {n p : Nat} {A : Nat → Nat → Q d} {u : Nat → Q d} (hp : p < n) : ∀ m, m ≤ n → det n (fun r c => if r = p then sm m (fun k => u k * A k c) else A r c) = sm m (fun k => u k * if k = p then det n A else 0)
  | 0, _ => by
    show _ = (0 : Q d)
    have z := det_lin (p := p) (t := -1) n (A := fun r c => if r = p then sm 0 (fun k => u k * A k c) else A r c) (B := A) (C := A) hp (fun c hc => by
      show (if p = p then (0 : Q d) else A p c) = A p c + -1 * A p c
      rw [if_pos rfl]; grind) (fun r c hr hc hne => ⟨if_neg hne, rfl⟩)
    rw [z]; grind
  | m + 1, h => by
    have ih := det_rows (A := A) (u := u) hp m (by omega)
    have z := det_lin (p := p) (t := u m) n (A := fun r c => if r = p then sm (m + 1) (fun k => u k * A k c) else A r c) (B := fun r c => if r = p then sm m (fun k => u k * A k c) else A r c) (C := fun r c => if r = p then A m c else A r c) hp (fun c hc => by
      show (if p = p then _ else _) = (if p = p then _ else _) + u m * (if p = p then _ else _)
      rw [if_pos rfl, if_pos rfl, if_pos rfl, sm_last]) (fun r c hr hc hne => ⟨by show (if r = p then _ else _) = (if r = p then _ else _); rw [if_neg hne, if_neg hne], by show (if r = p then _ else _) = (if r = p then _ else _); rw [if_neg hne, if_neg hne]⟩)
    rw [z, ih, sm_last]
    congr 1
    by_cases c : m = p
    · rw [if_pos c, det_congr n (A := fun r c => if r = p then A m c else A r c) (B := A) fun r k hr hk => by
        show (if r = p then A m k else A r k) = A r k
        split
        · rename_i z; rw [c, z]
        · rfl]
    · rw [if_neg c, det_eq' (n := n) (p := p) (q := m) (A := fun r c => if r = p then A m c else A r c) hp (by omega) (fun z => c z.symm) fun k hk => by
        show (if p = p then A m k else A p k) = (if m = p then A m k else A m k)
        rw [if_pos rfl, if_neg c]]
/-- what solves a system with a symmetric matrix, by determinants -/
theorem cramer {n p : Nat} {A : Nat → Nat → Q d} {u b : Nat → Q d} (hp : p < n) (hs : ∀ i j, i < n → j < n → A i j = A j i) (hu : ∀ i, i < n → sm n (fun j => A i j * u j) = b i) : u p * det n A = det n (fun r c => if r = p then b c else A r c) := by
  have h := det_rows (A := A) (u := u) hp n (Nat.le_refl n)
  rw [sm_one (p := p) n hp fun i hi hne => by rw [if_neg hne]; grind, if_pos rfl] at h
  rw [← h]
  refine det_congr n fun r c hr hc => ?_
  show (if r = p then _ else _) = (if r = p then _ else _)
  split
  · rw [← hu c hc]
    refine sm_congr n fun k hk => ?_
    show u k * A k c = A c k * u k
    rw [hs k c hk hc]
    grind
  · rfl
variable [NSq d]
/-- the rest, when the first column is taken away -/
def sch (A : Nat → Nat → Q d) : Nat → Nat → Q d := fun r c => A (r + 1) (c + 1) - A (r + 1) 0 / A 0 0 * A 0 (c + 1)
theorem row_ops {n : Nat} {A : Nat → Nat → Q d} {t : Nat → Q d} : ∀ m, m ≤ n → det (n + 1) (fun r c => if r ≠ 0 ∧ r ≤ m then A r c - t r * A 0 c else A r c) = det (n + 1) A
  | 0, _ => det_congr _ fun r c hr hc => by
    show (if r ≠ 0 ∧ r ≤ 0 then _ else _) = _
    rw [if_neg (by omega)]
  | m + 1, h => by
    have ih := row_ops (n := n) (A := A) (t := t) m (by omega)
    rw [← ih]
    have z := det_lin (p := m + 1) (t := - t (m + 1)) (n + 1) (A := fun r c => if r ≠ 0 ∧ r ≤ m + 1 then A r c - t r * A 0 c else A r c) (B := fun r c => if r ≠ 0 ∧ r ≤ m then A r c - t r * A 0 c else A r c) (C := fun r c => if r = m + 1 then A 0 c else if r ≠ 0 ∧ r ≤ m then A r c - t r * A 0 c else A r c) (by omega) (fun c hc => by
      show (if m + 1 ≠ 0 ∧ m + 1 ≤ m + 1 then _ else _) = (if m + 1 ≠ 0 ∧ m + 1 ≤ m then _ else _) + - t (m + 1) * (if m + 1 = m + 1 then _ else _)
      rw [if_pos (show m + 1 ≠ 0 ∧ m + 1 ≤ m + 1 by omega), if_neg (show ¬ (m + 1 ≠ 0 ∧ m + 1 ≤ m) by omega), if_pos rfl]
      grind) (fun r c hr hc hne => ⟨by
        show (if r ≠ 0 ∧ r ≤ m + 1 then _ else _) = (if r ≠ 0 ∧ r ≤ m then _ else _)
        by_cases c : r ≠ 0 ∧ r ≤ m
        · rw [if_pos c, if_pos (show r ≠ 0 ∧ r ≤ m + 1 by omega)]
        · rw [if_neg c, if_neg (show ¬ (r ≠ 0 ∧ r ≤ m + 1) by omega)], by show (if r = m + 1 then _ else _) = _; rw [if_neg hne]⟩)
    rw [z, det_eq' (n := n + 1) (p := 0) (q := m + 1) (A := fun r c => if r = m + 1 then A 0 c else if r ≠ 0 ∧ r ≤ m then A r c - t r * A 0 c else A r c) (by omega) (by omega) (by omega) fun c hc => by
      show (if 0 = m + 1 then _ else _) = (if m + 1 = m + 1 then _ else _)
      rw [if_neg (show ¬ 0 = m + 1 by omega), if_pos rfl, if_neg (show ¬ (0 ≠ 0 ∧ 0 ≤ m) by omega)]]
    grind
theorem chio {n : Nat} {A : Nat → Nat → Q d} (h : A 0 0 ≠ 0) : det (n + 1) A = A 0 0 * det n (sch A) := by
  rw [← row_ops (n := n) (A := A) (t := fun r => A r 0 / A 0 0) n (Nat.le_refl n)]
  show (1 : Q d) * ((if (0 : Nat) ≠ 0 ∧ 0 ≤ n then _ else A 0 0) * _) + sm n _ = _
  rw [if_neg (by omega), sm_zero n fun i hi => by
    show sgn1 (i + 1) * ((if i + 1 ≠ 0 ∧ i + 1 ≤ n then A (i + 1) 0 - A (i + 1) 0 / A 0 0 * A 0 0 else A (i + 1) 0) * _) = 0
    rw [if_pos (by omega)]
    have : A (i + 1) 0 - A (i + 1) 0 / A 0 0 * A 0 0 = 0 := by grind
    rw [this]; grind]
  rw [det_congr n (A := fun r c => if skip 0 r ≠ 0 ∧ skip 0 r ≤ n then A (skip 0 r) (c + 1) - A (skip 0 r) 0 / A 0 0 * A 0 (c + 1) else A (skip 0 r) (c + 1)) (B := sch A) fun r c hr hc => by
    have e : skip 0 r = r + 1 := by unfold skip; rw [if_neg (by omega)]
    show (if skip 0 r ≠ 0 ∧ skip 0 r ≤ n then _ else _) = _
    rw [e, if_pos (by omega)]
    rfl]
  grind
def schN : Nat → (Nat → Nat → Q d) → Nat → Nat → Q d
  | 0, A => A
  | k + 1, A => schN k (sch A)
/-- with one row and one column more -/
def bord (k i j : Nat) (A : Nat → Nat → Q d) : Nat → Nat → Q d := fun r c => A (if r < k then r else i) (if c < k then c else j)
theorem sch_bord {k i j : Nat} {A : Nat → Nat → Q d} : sch (bord (k + 1) (i + 1) (j + 1) A) = bord k i j (sch A) := by
  funext r c
  unfold sch bord
  have e : ∀ (r i : Nat), (if r + 1 < k + 1 then r + 1 else i + 1) = (if r < k then r else i) + 1 := fun r i => by split <;> split <;> omega
  have z : ∀ x y : Nat, (if 0 < k + 1 then x else y) = x := fun x y => if_pos (by omega)
  rw [e, e, z, z]
theorem minors : ∀ (k : Nat) {i j : Nat} {A : Nat → Nat → Q d}, (∀ m, m < k → schN m A 0 0 ≠ 0) → schN k A i j * det k A = det (k + 1) (bord k (k + i) (k + j) A)
  | 0, i, j, A, _ => by
    show A i j * 1 = (1 : Q d) * (A (0 + i) (0 + j) * 1) + 0
    rw [Nat.zero_add, Nat.zero_add]
    grind
  | k + 1, i, j, A, h => by
    have h0 : A 0 0 ≠ 0 := h 0 (by omega)
    have ih := minors k (i := i) (j := j) (A := sch A) fun m hm => h (m + 1) (by omega)
    have e1 := chio (n := k) (A := A) h0
    have e2 := chio (n := k + 1) (A := bord (k + 1) (k + 1 + i) (k + 1 + j) A) (by unfold bord; rw [if_pos (by omega), if_pos (by omega)]; exact h0)
    rw [show k + 1 + i = k + i + 1 by omega, show k + 1 + j = k + j + 1 by omega, sch_bord, ← ih] at e2
    rw [show k + 1 + i = k + i + 1 by omega, show k + 1 + j = k + j + 1 by omega, e2, e1]
    show schN k (sch A) i j * (A 0 0 * det k (sch A)) = bord (k + 1) _ _ A 0 0 * _
    have : bord (k + 1) (k + i + 1) (k + j + 1) A 0 0 = A 0 0 := by unfold bord; rw [if_pos (by omega), if_pos (by omega)]
    rw [this]
    grind
/-- nowhere but at 0 below or at 0 -/
def PD (n : Nat) (A : Nat → Nat → Q d) : Prop := ∀ v : Nat → Q d, (∃ i, i < n ∧ v i ≠ 0) → 0 < sm n fun i => v i * sm n fun j => A i j * v j
theorem PD.pivot {n : Nat} {A : Nat → Nat → Q d} (h : PD (n + 1) A) : 0 < A 0 0 := by
  have z := h (fun i => if i = 0 then 1 else 0) ⟨0, by omega, by
    show (if 0 = 0 then (1 : Q d) else 0) ≠ 0
    rw [if_pos rfl]
    intro e
    have : (1 : Rat) = 0 := congrArg Q.a e
    exact absurd this (by decide)⟩
  rw [sm_one (p := 0) (n + 1) (by omega) fun i hi hne => by rw [if_neg hne]; grind, if_pos rfl, sm_one (p := 0) (n + 1) (by omega) fun i hi hne => by rw [if_neg hne]; grind, if_pos rfl] at z
  have e : (1 : Q d) * (A 0 0 * 1) = A 0 0 := by grind
  rw [e] at z
  exact z
theorem ne_of_pos {x : Q d} (h : 0 < x) : x ≠ 0 := fun e => by rw [e] at h; exact absurd h (by grind)
theorem PD.sch {n : Nat} {A : Nat → Nat → Q d} (h : PD (n + 1) A) : PD n (LX.sch A) := fun w ⟨i, hi, hw⟩ => by
  have h0 := ne_of_pos h.pivot
  let v : Nat → Q d := fun i => match i with
    | 0 => - (sm n fun j => A 0 (j + 1) * w j) / A 0 0
    | i + 1 => w i
  have hv := h v ⟨i + 1, by omega, hw⟩
  have e1 : ∀ i, sm (n + 1) (fun j => A i j * v j) = A i 0 * v 0 + sm n (fun j => A i (j + 1) * w j) := fun i => rfl
  have e2 : sm (n + 1) (fun i => v i * sm (n + 1) fun j => A i j * v j) = v 0 * (A 0 0 * v 0 + sm n (fun j => A 0 (j + 1) * w j)) + sm n (fun i => w i * (A (i + 1) 0 * v 0 + sm n (fun j => A (i + 1) (j + 1) * w j))) := rfl
  have e3 : A 0 0 * v 0 + sm n (fun j => A 0 (j + 1) * w j) = 0 := by
    show A 0 0 * (- (sm n fun j => A 0 (j + 1) * w j) / A 0 0) + sm n (fun j => A 0 (j + 1) * w j) = 0
    grind
  rw [e2, e3] at hv
  have e4 : (v 0 * 0 : Q d) + sm n (fun i => w i * (A (i + 1) 0 * v 0 + sm n (fun j => A (i + 1) (j + 1) * w j))) = sm n fun i => w i * sm n fun j => LX.sch A i j * w j := by
    have : (v 0 * 0 : Q d) = 0 := by grind
    rw [this, show ∀ x : Q d, 0 + x = x from fun x => by grind]
    refine sm_congr n fun i hi => ?_
    congr 1
    have : sm n (fun j => LX.sch A i j * w j) = sm n (fun j => A (i + 1) (j + 1) * w j) + (-(A (i + 1) 0 / A 0 0)) * sm n (fun j => A 0 (j + 1) * w j) := by
      rw [← sm_mul, ← sm_add]
      refine sm_congr n fun j hj => ?_
      unfold LX.sch
      grind
    rw [this]
    show A (i + 1) 0 * (- (sm n fun j => A 0 (j + 1) * w j) / A 0 0) + _ = _
    grind
  rw [e4] at hv
  exact hv
theorem PD.schN : ∀ (k : Nat) {n : Nat} {A : Nat → Nat → Q d}, PD (k + n) A → PD n (LX.schN k A)
  | 0, n, A, h => by rw [Nat.zero_add] at h; exact h
  | k + 1, n, A, h => PD.schN k (PD.sch (by rw [show k + n + 1 = k + 1 + n by omega]; exact h))
theorem PD.pivots {n k : Nat} {A : Nat → Nat → Q d} (h : PD n A) (hk : k < n) : 0 < LX.schN k A 0 0 := by
  have : PD (n - k - 1 + 1) (LX.schN k A) := PD.schN k (by rw [show k + (n - k - 1 + 1) = n by omega]; exact h)
  exact this.pivot
/-- the solution; the sums stand in column n -/
def sol : Nat → (Nat → Nat → Q d) → Nat → Q d
  | 0, _ => fun _ => 0
  | n + 1, A => fun i => match i with
    | 0 => (A 0 (n + 1) - sm n fun j => A 0 (j + 1) * sol n (sch A) j) / A 0 0
    | i + 1 => sol n (sch A) i
theorem sol_ok : ∀ (n : Nat) {A : Nat → Nat → Q d}, PD n A → ∀ i, i < n → sm n (fun j => A i j * sol n A j) = A i n
  | 0, _, _, i, hi => absurd hi (by omega)
  | n + 1, A, h, i, hi => by
    have h0 := ne_of_pos h.pivot
    have ih := sol_ok n h.sch
    show A i 0 * ((A 0 (n + 1) - sm n fun j => A 0 (j + 1) * sol n (sch A) j) / A 0 0) + sm n (fun j => A i (j + 1) * sol n (sch A) j) = A i (n + 1)
    cases i with
    | zero => grind
    | succ i =>
      have z := ih i (by omega)
      have : sm n (fun j => LX.sch A i j * sol n (LX.sch A) j) = sm n (fun j => A (i + 1) (j + 1) * sol n (LX.sch A) j) + (-(A (i + 1) 0 / A 0 0)) * sm n (fun j => A 0 (j + 1) * sol n (LX.sch A) j) := by
        rw [← sm_mul, ← sm_add]
        refine sm_congr n fun j hj => ?_
        show (A (i + 1) (j + 1) - A (i + 1) 0 / A 0 0 * A 0 (j + 1)) * _ = _
        grind
      rw [this] at z
      have z : sm n (fun j => A (i + 1) (j + 1) * sol n (LX.sch A) j) + (-(A (i + 1) 0 / A 0 0)) * sm n (fun j => A 0 (j + 1) * sol n (LX.sch A) j) = A (i + 1) (n + 1) - A (i + 1) 0 / A 0 0 * A 0 (n + 1) := z
      grind
theorem unique {n : Nat} {A : Nat → Nat → Q d} {u v : Nat → Q d} (h : PD n A) (hu : ∀ i, i < n → sm n (fun j => A i j * u j) = sm n (fun j => A i j * v j)) : ∀ i, i < n → u i = v i := fun i hi => by
  apply Classical.byContradiction
  intro c
  have z := h (fun i => u i - v i) ⟨i, hi, fun e => c (by
    have e : u i - v i = 0 := e
    grind)⟩
  rw [sm_zero n fun k hk => by
    have : sm n (fun j => A k j * (u j - v j)) = sm n (fun j => A k j * u j) + (-1) * sm n (fun j => A k j * v j) := by
      rw [← sm_mul, ← sm_add]
      exact sm_congr n fun j hj => by grind
    rw [this, hu k hk]
    grind] at z
  exact absurd z (by grind)
end LX

set_option Elab.async false
set_option linter.all false
set_option maxRecDepth 100000
set_option maxHeartbeats 4000000
/-! PLY: how large the numbers of an elimination are. -/
namespace LX
open PV Qu
variable {d : Nat}
/-- whole numbers of a size: P B x; products grow by c -/
structure Gr (d c : Nat) (P : Nat → Q d → Prop) : Prop where
  zero : P 0 0
  one : P 1 1
  add : ∀ {B C x y}, P B x → P C y → P (B + C) (x + y)
  neg : ∀ {B x}, P B x → P B (-x)
  mul : ∀ {B C x y}, P B x → P C y → P (c * (B * C)) (x * y)
  mono : ∀ {B C x}, P B x → B ≤ C → P C x
theorem dn1 : Dn 1 1 (1 : Q d) := ⟨1, 0, by show (1 : Rat) * ((1 : Nat) : Rat) = ((1 : Int) : Rat); decide +kernel, by show (0 : Rat) * ((1 : Nat) : Rat) = ((0 : Int) : Rat); decide +kernel, by decide, by decide⟩
theorem gr_dn : Gr d (d + 2) (fun B x => Dn 1 B x) := ⟨Dn.zero, dn1, fun h g => h.add g, fun h => h.neg, fun h g => h.mul g, fun h k => h.mono k⟩
/-- numbers without the root -/
def Rn (B : Nat) (x : Q d) : Prop := Dn 1 B x ∧ x.b = 0
theorem Rn.eq {B : Nat} {x : Q d} (h : Rn B x) : x = F x.a := ext' rfl h.2
theorem gr_rn : Gr d 1 (fun B x => Rn (d := d) B x) := by
  refine ⟨⟨Dn.zero, rfl⟩, ⟨dn1, rfl⟩, fun h g => ⟨h.1.add g.1, ?_⟩, fun h => ⟨h.1.neg, ?_⟩, fun {B C x y} h g => ⟨?_, ?_⟩, fun h k => ⟨h.1.mono k, h.2⟩⟩
  · show _ + _ = (0 : Rat)
    rw [h.2, g.2]; grind
  · show -_ = (0 : Rat)
    rw [h.2]; grind
  · have e1 := h.1
    have e2 := g.1
    rw [h.eq] at e1
    rw [g.eq] at e2
    have := Dn.fmul e1 e2
    rw [h.eq, g.eq, F_mul, Nat.one_mul]
    exact this
  · show x.a * y.b + x.b * y.a = 0
    rw [h.2, g.2]; grind
section
variable {c : Nat} {P : Nat → Q d → Prop}
theorem Gr.sub (gr : Gr d c P) {B C : Nat} {x y : Q d} (h : P B x) (g : P C y) : P (B + C) (x - y) := by
  have := gr.add h (gr.neg g)
  rw [show x - y = x + -y by grind]
  exact this
theorem Gr.sm (gr : Gr d c P) {B : Nat} : ∀ {n : Nat} {f : Nat → Q d}, (∀ i, i < n → P B (f i)) → P (n * B) (LX.sm n f)
  | 0, _, _ => by rw [Nat.zero_mul]; exact gr.zero
  | n + 1, f, h => by
    have := gr.add (h 0 (by omega)) (Gr.sm gr (n := n) (f := fun i => f (i + 1)) fun i hi => h (i + 1) (by omega))
    rw [Nat.add_mul, Nat.one_mul, Nat.add_comm]
    exact this
theorem Gr.sgn (gr : Gr d c P) {B : Nat} {x : Q d} (h : P B x) : ∀ i, P B (sgn1 i * x)
  | 0 => by
    show P B (1 * x)
    rw [show (1 : Q d) * x = x by grind]; exact h
  | i + 1 => by
    show P B (- sgn1 i * x)
    rw [show - sgn1 i * x = -(sgn1 i * x) by grind]
    exact gr.neg (Gr.sgn gr h i)
/-- the size of a determinant -/
def bd (c B : Nat) : Nat → Nat
  | 0 => 1
  | n + 1 => (n + 1) * (c * (B * bd c B n))
theorem Gr.det (gr : Gr d c P) {B : Nat} : ∀ (n : Nat) {A : Nat → Nat → Q d}, (∀ r k, r < n → k < n → P B (A r k)) → P (bd c B n) (LX.det n A)
  | 0, _, _ => gr.one
  | n + 1, A, h => Gr.sm gr fun i hi => Gr.sgn gr (gr.mul (h i 0 hi (by omega)) (Gr.det gr n fun r k hr hk => h _ _ (skip_lt hr hi) (by omega))) i
end
theorem conj_ne {x : Q d} (h : x ≠ 0) : x.conj ≠ 0 := fun e => h (by
  have h1 : x.a = 0 := congrArg Q.a e
  have h2 : -x.b = 0 := congrArg Q.b e
  exact ext' h1 (by show x.b = 0; grind))
/-- a quotient's size -/
theorem quot_sz [NSq d] {x W X : Q d} {B1 B2 k : Nat} (h : x * W = X) (hW : W ≠ 0) (h1 : Dn 1 B1 X) (h2 : Dn 1 B2 W) (c1 : (d + 2) * (B1 * B2) < 2 ^ k) (c2 : (d + 2) * (B2 * B2) < 2 ^ k) : Sz k x := by
  have n0 : W * W.conj ≠ 0 := fun e => by
    have := conj_ne hW
    grind
  obtain ⟨m, z, e1, e2, e3, e4⟩ := h2.mul h2.conj
  have hb : (W * W.conj).b = 0 := by show W.a * -W.b + W.b * W.a = 0; grind
  have one : ((1 * 1 : Nat) : Rat) = 1 := by decide
  rw [one] at e1 e2
  have ea : (W * W.conj).a = (m : Rat) := by rw [← e1]; grind
  have m0 : m ≠ 0 := fun e => n0 (ext' (by rw [ea, e]; rfl) hb)
  have en : W * W.conj = F (m : Rat) := ext' ea hb
  obtain ⟨p, q, f1, f2, f3, f4⟩ := h1.mul h2.conj
  rw [one] at f1 f2
  have ex : x * F (m : Rat) = X * W.conj := by rw [← en, ← h]; grind
  have xa : (x * F (m : Rat)).a = x.a * (m : Rat) := by show x.a * _ + (d : Rat) * (x.b * 0) = _; grind
  have xb : (x * F (m : Rat)).b = x.b * (m : Rat) := by show x.a * 0 + x.b * _ = _; grind
  have e : mkQ d p q m = x := mkQ_of m0 (by rw [← xa, ex, ← f1]; grind) (by rw [← xb, ex, ← f2]; grind)
  rw [← e]
  exact Sz.of m0 (by omega) (by omega) (by omega)
theorem quot_szR {x W X : Q d} {B1 B2 k : Nat} (h : x * W = X) (hW : W ≠ 0) (h1 : Rn B1 X) (h2 : Rn B2 W) (c1 : B1 < 2 ^ k) (c2 : B2 < 2 ^ k) (hk : 0 < k) : Sz k x ∧ x.b = 0 := by
  obtain ⟨⟨m, z, e1, e2, e3, e4⟩, hb⟩ := h2
  have one : ((1 : Nat) : Rat) = 1 := by decide
  rw [one] at e1 e2
  have ea : W.a = (m : Rat) := by rw [← e1]; grind
  have m0 : m ≠ 0 := fun e => hW (ext' (by rw [ea, e]; rfl) hb)
  have en : W = F (m : Rat) := ext' ea hb
  obtain ⟨⟨p, q, f1, f2, f3, f4⟩, hX⟩ := h1
  rw [one] at f1 f2
  have ex : x * F (m : Rat) = X := by rw [← en, ← h]
  have xa : (x * F (m : Rat)).a = x.a * (m : Rat) := by show x.a * _ + (d : Rat) * (x.b * 0) = _; grind
  have xb : (x * F (m : Rat)).b = x.b * (m : Rat) := by show x.a * 0 + x.b * _ = _; grind
  have mr : (m : Rat) ≠ 0 := cast_ne m0
  have b0 : x.b = 0 := by
    have : x.b * (m : Rat) = 0 := by rw [← xb, ex, hX]
    grind
  have e : mkQ d p 0 m = x := mkQ_of m0 (by rw [← xa, ex, ← f1]; grind) (by rw [b0]; show (0 : Rat) * _ = ((0 : Int) : Rat); have : ((0 : Int) : Rat) = 0 := rfl; rw [this]; grind)
  refine ⟨?_, b0⟩
  rw [← e]
  exact Sz.of m0 (by omega) (by rw [Int.natAbs_zero]; exact Nat.pow_pos (by decide)) (by omega)
variable [NSq d]
theorem sch_scale {A : Nat → Nat → Q d} {Y : Q d} (hY : Y ≠ 0) (h : A 0 0 ≠ 0) : sch (fun i j => A i j * Y) = fun i j => sch A i j * Y := by
  funext r k
  unfold sch
  grind
theorem schN_scale {Y : Q d} (hY : Y ≠ 0) : ∀ (k : Nat) {A : Nat → Nat → Q d}, (∀ m, m < k → schN m A 0 0 ≠ 0) → schN k (fun i j => A i j * Y) = fun i j => schN k A i j * Y
  | 0, _, _ => rfl
  | k + 1, A, h => by
    have h0 : A 0 0 ≠ 0 := h 0 (by omega)
    show schN k (sch _) = _
    rw [sch_scale hY h0, schN_scale hY k fun m hm => h (m + 1) (by omega)]
    rfl
theorem det_succ {k : Nat} {A : Nat → Nat → Q d} (h : ∀ m, m < k → schN m A 0 0 ≠ 0) : det (k + 1) A = schN k A 0 0 * det k A := by
  rw [minors k h]
  refine det_congr _ fun r c hr hc => ?_
  unfold bord
  have e : ∀ r, r < k + 1 → (if r < k then r else k + 0) = r := fun r hr => by split <;> omega
  rw [e r hr, e c hc]
theorem det_ne : ∀ (k : Nat) {A : Nat → Nat → Q d}, (∀ m, m < k → schN m A 0 0 ≠ 0) → det k A ≠ 0
  | 0, _, _ => fun e => by
    have : (1 : Rat) = 0 := congrArg Q.a e
    exact absurd this (by decide)
  | k + 1, A, h => by
    rw [det_succ fun m hm => h m (by omega)]
    have h1 := h k (by omega)
    have h2 := det_ne k fun m hm => h m (by omega)
    intro e
    grind
theorem sol_at : ∀ (k : Nat) {n : Nat} {A : Nat → Nat → Q d} (i : Nat), sol n (schN k A) i = sol (k + n) A (k + i)
  | 0, n, A, i => by rw [Nat.zero_add, Nat.zero_add]; rfl
  | k + 1, n, A, i => by
    show sol n (schN k (sch A)) i = _
    rw [sol_at k i, show k + 1 + n = k + n + 1 by omega, show k + 1 + i = k + i + 1 by omega]
    rfl
/-- all numbers of a system's solving, over common denominators: x * W = X -/
structure Bnd (P : Nat → Q d → Prop) (n : Nat) (A : Nat → Nat → Q d) (T U : Nat) : Prop where
  z1 : ∀ k r j, k + r < n → k + j ≤ n → ∃ W X, schN k A r j * W = X ∧ W ≠ 0 ∧ P T X ∧ P U W
  z2 : ∃ W, W ≠ 0 ∧ P U W ∧ ∀ p, p < n → P T (sol n A p * W)
  z4 : ∀ k r, k + r + 1 < n → ∃ W X, (schN k A (r + 1) 0 / schN k A 0 0) * W = X ∧ W ≠ 0 ∧ P T X ∧ P U W
  z3 : ∀ k m, k < n → m < n - k → ∃ W X, (schN k A 0 (n - k) - sm m fun j => schN k A 0 (j + 1) * sol n A (k + 1 + j)) * W = X ∧ W ≠ 0 ∧ P T X ∧ P U W
theorem bnd_of {c B g n T U : Nat} {P : Nat → Q d → Prop} (gr : Gr d c P) {A : Nat → Nat → Q d} {Y : Q d} (pd : PD n A) (hs : ∀ i j, i < n → j < n → A i j = A j i) (hY : Y ≠ 0) (hYB : P B Y) (hA : ∀ i j, i < n → j ≤ n → P B (A i j * Y)) (hg : ∀ k, k ≤ n → bd c B k ≤ g) (hg1 : 1 ≤ g) (hc : 1 ≤ c)
    (hT : g + n * g + c * (g * g) + n * (c * (g * g)) ≤ T) (hU : g + c * (g * B) + c * (c * (g * B) * g) ≤ U) : Bnd P n A T U := by
  have pv : ∀ m, m < n → schN m A 0 0 ≠ 0 := fun m hm => ne_of_pos (pd.pivots hm)
  have pvS : ∀ k, k ≤ n → ∀ m, m < k → schN m (fun i j => A i j * Y) 0 0 ≠ 0 := fun k hk m hm => by
    rw [schN_scale hY m fun l hl => pv l (by omega)]
    have := pv m (by omega)
    show schN m A 0 0 * Y ≠ 0
    intro e
    grind
  have dne : ∀ k, k ≤ n → det k (fun i j => A i j * Y) ≠ 0 := fun k hk => det_ne k (pvS k hk)
  have dP : ∀ k, k ≤ n → P g (det k fun i j => A i j * Y) := fun k hk => gr.mono (gr.det k fun r j hr hj => hA r j (by omega) (by omega)) (hg k hk)
  -- entries
  have ent : ∀ k r j, k + r < n → k + j ≤ n → schN k A r j * (det k (fun i j => A i j * Y) * Y) = det (k + 1) (bord k (k + r) (k + j) fun i j => A i j * Y) ∧ P g (det (k + 1) (bord k (k + r) (k + j) fun i j => A i j * Y)) := fun k r j hr hj => by
    constructor
    · rw [← minors k (pvS k (by omega)), schN_scale hY k fun l hl => pv l (by omega)]
      grind
    · refine gr.mono (gr.det (B := B) (k + 1) fun x y hx hy => ?_) (hg (k + 1) (by omega))
      unfold bord
      exact hA _ _ (by split <;> omega) (by split <;> omega)
  have wne : ∀ k, k ≤ n → det k (fun i j => A i j * Y) * Y ≠ 0 := fun k hk e => by
    have := dne k hk
    grind
  have wP : ∀ k, k ≤ n → P (c * (g * B)) (det k (fun i j => A i j * Y) * Y) := fun k hk => gr.mul (dP k hk) hYB
  -- values
  have val : ∀ p, p < n → sol n A p * det n (fun i j => A i j * Y) = det n (fun r k => if r = p then A k n * Y else A r k * Y) ∧ P g (det n (fun r k => if r = p then A k n * Y else A r k * Y)) := fun p hp => by
    constructor
    · refine cramer (u := sol n A) (b := fun k => A k n * Y) hp (fun i j hi hj => by rw [hs i j hi hj]) fun i hi => ?_
      rw [← sol_ok n pd i hi]
      have : sm n (fun j => A i j * Y * sol n A j) = Y * sm n (fun j => A i j * sol n A j) := by
        rw [← sm_mul]
        exact sm_congr n fun j hj => by grind
      rw [this]
      grind
    · refine gr.mono (gr.det (B := B) n fun x y hx hy => ?_) (hg n (Nat.le_refl n))
      show P B (if x = p then _ else _)
      split
      · exact hA _ _ hy (Nat.le_refl n)
      · exact hA _ _ hx (by omega)
  have gg : g ≤ c * (g * g) := by
    have h1 : g * 1 ≤ g * g := Nat.mul_le_mul_left g hg1
    have h2 : 1 * (g * g) ≤ c * (g * g) := Nat.mul_le_mul_right _ hc
    omega
  refine ⟨fun k r j hr hj => ?_, ?_, fun k r hr => ?_, fun k m hk hm => ?_⟩
  · obtain ⟨e1, e2⟩ := ent k r j hr hj
    exact ⟨_, _, e1, wne k (by omega), gr.mono e2 (by omega), gr.mono (wP k (by omega)) (by omega)⟩
  · refine ⟨_, dne n (Nat.le_refl n), gr.mono (dP n (Nat.le_refl n)) (by omega), fun p hp => ?_⟩
    obtain ⟨e1, e2⟩ := val p hp
    rw [e1]
    exact gr.mono e2 (by omega)
  · obtain ⟨e1, e2⟩ := ent k (r + 1) 0 (by omega) (by omega)
    obtain ⟨e3, e4⟩ := ent k 0 0 (by omega) (by omega)
    have h1 := wne k (by omega)
    have h2 := pv k (by omega)
    refine ⟨det (k + 1) (bord k (k + 0) (k + 0) fun i j => A i j * Y), _, ?_, fun e => ?_, gr.mono e2 (by omega), gr.mono e4 (by omega)⟩
    · rw [← e1, ← e3]
      generalize det k (fun i j => A i j * Y) * Y = W at *
      grind
    · rw [e] at e3
      grind
  · refine ⟨det k (fun i j => A i j * Y) * Y * det n (fun i j => A i j * Y), _, rfl, fun e => ?_, ?_, ?_⟩
    · have h1 := wne k (by omega)
      have h2 := dne n (Nat.le_refl n)
      grind
    · obtain ⟨e1, e2⟩ := ent k 0 (n - k) (by omega) (by omega)
      have key : (schN k A 0 (n - k) - sm m fun j => schN k A 0 (j + 1) * sol n A (k + 1 + j)) * (det k (fun i j => A i j * Y) * Y * det n (fun i j => A i j * Y)) =
          det (k + 1) (bord k (k + 0) (k + (n - k)) fun i j => A i j * Y) * det n (fun i j => A i j * Y) - sm m fun j => (schN k A 0 (j + 1) * (det k (fun i j => A i j * Y) * Y)) * (sol n A (k + 1 + j) * det n (fun i j => A i j * Y)) := by
        rw [← e1]
        have : (sm m fun j => (schN k A 0 (j + 1) * (det k (fun i j => A i j * Y) * Y)) * (sol n A (k + 1 + j) * det n (fun i j => A i j * Y))) = (det k (fun i j => A i j * Y) * Y * det n (fun i j => A i j * Y)) * sm m fun j => schN k A 0 (j + 1) * sol n A (k + 1 + j) := by
          rw [← sm_mul]
          exact sm_congr m fun j hj => by grind
        rw [this]
        grind
      rw [key]
      have h1 := gr.mul e2 (dP n (Nat.le_refl n))
      have h2 : P (m * (c * (g * g))) (sm m fun j => (schN k A 0 (j + 1) * (det k (fun i j => A i j * Y) * Y)) * (sol n A (k + 1 + j) * det n (fun i j => A i j * Y))) := gr.sm fun j hj => by
        obtain ⟨f1, f2⟩ := ent k 0 (j + 1) (by omega) (by omega)
        obtain ⟨f3, f4⟩ := val (k + 1 + j) (by omega)
        rw [f1, f3]
        exact gr.mul f2 f4
      refine gr.mono (gr.sub h1 h2) ?_
      have : m * (c * (g * g)) ≤ n * (c * (g * g)) := Nat.mul_le_mul_right _ (by omega)
      omega
    · exact gr.mono (gr.mul (wP k (by omega)) (dP n (Nat.le_refl n))) (by omega)
theorem schN_succ : ∀ (k : Nat) (A : Nat → Nat → Q d), schN (k + 1) A = sch (schN k A)
  | 0, _ => rfl
  | k + 1, A => schN_succ k (sch A)
/-- the last value, by the row of its place -/
theorem sol_row {n k : Nat} {A : Nat → Nat → Q d} (hk : k < n) : sol n A k = (schN k A 0 (n - k) - sm (n - k - 1) fun j => schN k A 0 (j + 1) * sol n A (k + 1 + j)) / schN k A 0 0 := by
  have h := sol_at k (n := n - k) (A := A) 0
  rw [show k + (n - k) = n by omega, Nat.add_zero] at h
  rw [← h]
  obtain ⟨m, hm⟩ : ∃ m, n - k = m + 1 := ⟨n - k - 1, by omega⟩
  rw [hm]
  show (schN k A 0 (m + 1) - sm m fun j => schN k A 0 (j + 1) * sol m (sch (schN k A)) j) / schN k A 0 0 = _
  rw [show m + 1 - 1 = m by omega, sm_congr m fun j hj => by
    rw [← schN_succ, sol_at (k + 1) j, show k + 1 + m = n by omega]]
/-- numbers small enough -/
structure Fine (K n : Nat) (A : Nat → Nat → Q d) : Prop where
  pd : PD n A
  z1 : ∀ k r j, k + r < n → k + j ≤ n → Sz K (schN k A r j)
  z2 : ∀ p, p < n → Sz K (sol n A p)
  z4 : ∀ k r, k + r + 1 < n → Sz K (schN k A (r + 1) 0 / schN k A 0 0)
  z3 : ∀ k m, k < n → m < n - k → Sz K (schN k A 0 (n - k) - sm m fun j => schN k A 0 (j + 1) * sol n A (k + 1 + j))
theorem fine_of {K n T U : Nat} {A : Nat → Nat → Q d} (pd : PD n A) (h : Bnd (fun B x => Dn 1 B x) n A T U) (c1 : (d + 2) * (T * U) < 2 ^ K) (c2 : (d + 2) * (U * U) < 2 ^ K) : Fine K n A := by
  have q : ∀ {x : Q d}, (∃ W X, x * W = X ∧ W ≠ 0 ∧ Dn 1 T X ∧ Dn 1 U W) → Sz K x := fun ⟨W, X, h1, h2, h3, h4⟩ => quot_sz h1 h2 h3 h4 c1 c2
  exact ⟨pd, fun k r j h1 h2 => q (h.z1 k r j h1 h2), fun p hp => (let ⟨W, h1, h2, h3⟩ := h.z2; q ⟨W, _, rfl, h1, h3 p hp, h2⟩), fun k r h1 => q (h.z4 k r h1), fun k m h1 h2 => q (h.z3 k m h1 h2)⟩
end LX

set_option Elab.async false
set_option linter.all false
set_option maxRecDepth 100000
set_option maxHeartbeats 4000000
/-! PLZ: nets: the form of a net, its inner part, heights. -/
namespace LX
open PV Qu
variable {d : Nat}
abbrev Nt (d : Nat) := Nat × Nat × Q d
def upd2 (R : Nat → Nat → Q d) (a b : Nat) (x : Q d) : Nat → Nat → Q d := fun i j => if i = a then (if j = b then x else R i j) else R i j
def tileM (R : Nat → Nat → Q d) (t : Nt d) : Nat → Nat → Q d :=
  let R1 := upd2 R t.1 t.1 (R t.1 t.1 + t.2.2)
  let R2 := upd2 R1 t.1 t.2.1 (R1 t.1 t.2.1 - t.2.2)
  let R3 := upd2 R2 t.2.1 t.2.1 (R2 t.2.1 t.2.1 + t.2.2)
  upd2 R3 t.2.1 t.1 (R3 t.2.1 t.1 - t.2.2)
def netM (ts : List (Nt d)) : Nat → Nat → Q d := ts.foldl tileM fun _ _ => 0
def Bf (n : Nat) (R : Nat → Nat → Q d) (x y : Nat → Q d) : Q d := sm n fun i => x i * sm n fun j => R i j * y j
theorem bf_upd {n a b : Nat} {R : Nat → Nat → Q d} {t : Q d} {x y : Nat → Q d} (ha : a < n) (hb : b < n) : Bf n (upd2 R a b (R a b + t)) x y = Bf n R x y + x a * (t * y b) := by
  have e : ∀ i, i < n → x i * sm n (fun j => upd2 R a b (R a b + t) i j * y j) = x i * sm n (fun j => R i j * y j) + (if i = a then x a * (t * y b) else 0) := fun i hi => by
    by_cases c : i = a
    · subst c
      rw [if_pos rfl]
      have : sm n (fun j => upd2 R i b (R i b + t) i j * y j) = sm n (fun j => R i j * y j) + sm n (fun j => if j = b then t * y b else 0) := by
        rw [← sm_add]
        refine sm_congr n fun j hj => ?_
        unfold upd2
        rw [if_pos rfl]
        by_cases c2 : j = b
        · rw [if_pos c2, if_pos c2, c2]; grind
        · rw [if_neg c2, if_neg c2]; grind
      rw [this, sm_one (p := b) n hb fun j hj hne => if_neg hne, if_pos rfl]
      grind
    · rw [if_neg c]
      have : sm n (fun j => upd2 R a b (R a b + t) i j * y j) = sm n (fun j => R i j * y j) := sm_congr n fun j hj => by
        unfold upd2
        rw [if_neg c]
      rw [this]; grind
  unfold Bf
  rw [sm_congr n e, sm_add, sm_one (p := a) n ha fun j hj hne => if_neg hne, if_pos rfl]
theorem bf_upd' {n a b : Nat} {R : Nat → Nat → Q d} {t : Q d} {x y : Nat → Q d} (ha : a < n) (hb : b < n) : Bf n (upd2 R a b (R a b - t)) x y = Bf n R x y - x a * (t * y b) := by
  have := bf_upd (R := R) (t := -t) (x := x) (y := y) ha hb
  rw [show R a b - t = R a b + -t by grind, this]
  grind
theorem bf_tile {n : Nat} {R : Nat → Nat → Q d} {t : Nt d} {x y : Nat → Q d} (h1 : t.1 < n) (h2 : t.2.1 < n) : Bf n (tileM R t) x y = Bf n R x y + t.2.2 * ((x t.1 - x t.2.1) * (y t.1 - y t.2.1)) := by
  unfold tileM
  rw [bf_upd' h2 h1, bf_upd h2 h2, bf_upd' h1 h2, bf_upd h1 h1]
  grind
/-- the form of a net -/
def en (x y : Nat → Q d) : List (Nt d) → Q d
  | [] => 0
  | t :: ts => t.2.2 * ((x t.1 - x t.2.1) * (y t.1 - y t.2.1)) + en x y ts
theorem bf_fold {n : Nat} {x y : Nat → Q d} : ∀ (ts : List (Nt d)) (R : Nat → Nat → Q d), (∀ t ∈ ts, t.1 < n ∧ t.2.1 < n) → Bf n (ts.foldl tileM R) x y = Bf n R x y + en x y ts
  | [], R, _ => by show _ = _ + 0; rw [List.foldl_nil]; grind
  | t :: ts, R, h => by
    obtain ⟨h1, h2⟩ := h t List.mem_cons_self
    rw [List.foldl_cons, bf_fold ts _ fun u hu => h u (List.mem_cons_of_mem _ hu), bf_tile h1 h2]
    show _ = _ + (_ + _)
    grind
theorem bf_net {n : Nat} {x y : Nat → Q d} {ts : List (Nt d)} (h : ∀ t ∈ ts, t.1 < n ∧ t.2.1 < n) : Bf n (netM ts) x y = en x y ts := by
  unfold netM
  rw [bf_fold ts _ h]
  have : Bf n (fun _ _ => 0) x y = 0 := sm_zero n fun i hi => by
    rw [sm_zero n fun j hj => by grind]
    grind
  rw [this]; grind
def dl (l : Nat) : Nat → Q d := fun i => if i = l then 1 else 0
theorem bf_dl {n l : Nat} {R : Nat → Nat → Q d} {y : Nat → Q d} (h : l < n) : Bf n R (dl l) y = sm n fun j => R l j * y j := by
  unfold Bf
  rw [sm_one (p := l) n h fun i hi hne => by unfold dl; rw [if_neg hne]; grind]
  unfold dl
  rw [if_pos rfl]; grind
theorem entry {n i j : Nat} {R : Nat → Nat → Q d} (hi : i < n) (hj : j < n) : Bf n R (dl i) (dl j) = R i j := by
  rw [bf_dl hi, sm_one (p := j) n hj fun k hk hne => by unfold dl; rw [if_neg hne]; grind]
  unfold dl
  rw [if_pos rfl]; grind
theorem en_comm (x y : Nat → Q d) : ∀ ts : List (Nt d), en x y ts = en y x ts
  | [] => rfl
  | t :: ts => by show _ + _ = _ + _; rw [en_comm x y ts]; grind
theorem netM_symm {n i j : Nat} {ts : List (Nt d)} (h : ∀ t ∈ ts, t.1 < n ∧ t.2.1 < n) (hi : i < n) (hj : j < n) : netM ts i j = netM ts j i := by
  rw [← entry (R := netM ts) hi hj, ← entry (R := netM ts) hj hi, bf_net h, bf_net h, en_comm]
variable [NSq d]
theorem sq_nn (x : Q d) : 0 ≤ x * x := by
  by_cases c : x = 0
  · rw [c]; grind
  · have : 0 < x ∨ x < 0 := by grind
    rcases this with h | h
    · have := Lean.Grind.OrderedRing.mul_lt_mul_of_pos_left h h
      grind
    · have h' : 0 < -x := by grind
      have := Lean.Grind.OrderedRing.mul_lt_mul_of_pos_left h' h'
      grind
theorem sq_pos {x : Q d} (h : x ≠ 0) : 0 < x * x := by
  have h1 := sq_nn x
  have h2 : x * x ≠ 0 := fun e => h (by grind)
  grind
theorem mul_pos3 {x y : Q d} (hx : 0 < x) (hy : 0 < y) : 0 < x * y := by
  have := Lean.Grind.OrderedRing.mul_lt_mul_of_pos_left hy hx
  grind
theorem en_nn {x : Nat → Q d} : ∀ {ts : List (Nt d)}, (∀ t ∈ ts, 0 < t.2.2) → 0 ≤ en x x ts
  | [], _ => Std.le_refl _
  | t :: ts, h => by
    have h1 := h t List.mem_cons_self
    have h2 := en_nn (x := x) (ts := ts) fun u hu => h u (List.mem_cons_of_mem _ hu)
    show 0 ≤ t.2.2 * ((x t.1 - x t.2.1) * (x t.1 - x t.2.1)) + en x x ts
    by_cases c : x t.1 - x t.2.1 = 0
    · rw [c]; grind
    · have := mul_pos3 h1 (sq_pos c)
      grind
theorem en_zero {x : Nat → Q d} : ∀ {ts : List (Nt d)}, (∀ t ∈ ts, 0 < t.2.2) → en x x ts = 0 → ∀ t ∈ ts, x t.1 = x t.2.1
  | [], _, _ => fun _ h => nomatch h
  | t :: ts, h, e => by
    have h1 := h t List.mem_cons_self
    have h2 := en_nn (x := x) (ts := ts) fun u hu => h u (List.mem_cons_of_mem _ hu)
    have e : t.2.2 * ((x t.1 - x t.2.1) * (x t.1 - x t.2.1)) + en x x ts = 0 := e
    have c : x t.1 - x t.2.1 = 0 := by
      apply Classical.byContradiction
      intro c
      have := mul_pos3 h1 (sq_pos c)
      grind
    rw [c] at e
    have e2 : en x x ts = 0 := by grind
    intro u hu
    rcases List.mem_cons.mp hu with rfl | hu
    · grind
    · exact en_zero (fun u hu => h u (List.mem_cons_of_mem _ hu)) e2 u hu
/-- all lines hang together -/
def Conn (n : Nat) (ts : List (Nt d)) : Prop := ∀ x : Nat → Q d, (∀ t ∈ ts, x t.1 = x t.2.1) → ∀ i, i < n → x i = x 0
/-- the system of the inner lines; n of them -/
def sys (n : Nat) (ts : List (Nt d)) (top : Q d) : Nat → Nat → Q d := fun i j => if j < n then netM ts (i + 1) (j + 1) else 0 - netM ts (i + 1) (n + 1) * top
/-- heights: 0, the inner ones, the highest -/
def ext0 (n : Nat) (v : Nat → Q d) (top : Q d) : Nat → Q d := fun i => if i = 0 then 0 else if i = n + 1 then top else v (i - 1)
theorem ext_in {n i : Nat} {v : Nat → Q d} {top : Q d} (h : i < n) : ext0 n v top (i + 1) = v i := by
  unfold ext0
  rw [if_neg (by omega), if_neg (by omega)]
  rfl
theorem sm_ext {n : Nat} {f : Nat → Q d} : sm (n + 2) f = f 0 + sm n (fun i => f (i + 1)) + f (n + 1) := by
  rw [sm_last]
  rfl
theorem row_ext {n l : Nat} {R : Nat → Nat → Q d} {v : Nat → Q d} {top : Q d} : sm (n + 2) (fun j => R l j * ext0 n v top j) = sm n (fun j => R l (j + 1) * v j) + R l (n + 1) * top := by
  rw [sm_ext]
  have h0 : ext0 n v top 0 = 0 := by unfold ext0; rw [if_pos rfl]
  have h1 : ext0 n v top (n + 1) = top := by unfold ext0; rw [if_neg (by omega), if_pos rfl]
  rw [h0, h1, sm_congr n fun j hj => by rw [ext_in hj]]
  grind
theorem sys_in {n i : Nat} {ts : List (Nt d)} {top : Q d} {v : Nat → Q d} : sm n (fun j => sys n ts top i j * v j) = sm n fun j => netM ts (i + 1) (j + 1) * v j := sm_congr n fun j hj => by unfold sys; rw [if_pos hj]
theorem sys_pd {n : Nat} {ts : List (Nt d)} {top : Q d} (h : ∀ t ∈ ts, t.1 < n + 2 ∧ t.2.1 < n + 2) (hp : ∀ t ∈ ts, 0 < t.2.2) (hc : Conn (n + 2) ts) : PD n (sys n ts top) := fun v ⟨i, hi, hv⟩ => by
  have e : sm n (fun i => v i * sm n fun j => sys n ts top i j * v j) = en (ext0 n v 0) (ext0 n v 0) ts := by
    rw [← bf_net h]
    show _ = sm (n + 2) _
    rw [sm_ext]
    have h0 : ext0 n v 0 0 = 0 := by unfold ext0; rw [if_pos rfl]
    have h1 : ext0 n v 0 (n + 1) = 0 := by unfold ext0; rw [if_neg (by omega), if_pos rfl]
    rw [h0, h1]
    have : sm n (fun i => ext0 n v 0 (i + 1) * sm (n + 2) fun j => netM ts (i + 1) j * ext0 n v 0 j) = sm n fun i => v i * sm n fun j => sys n ts top i j * v j := sm_congr n fun i hi => by
      rw [ext_in hi, row_ext, sys_in]
      grind
    rw [this]
    grind
  rw [e]
  have nn := en_nn (x := ext0 n v 0) hp
  have ne : en (ext0 n v 0) (ext0 n v 0) ts ≠ 0 := fun z => hv (by
    have := hc _ (en_zero hp z) (i + 1) (by omega)
    rw [ext_in hi] at this
    rw [this]
    unfold ext0
    rw [if_pos rfl])
  grind
theorem sys_symm {n i j : Nat} {ts : List (Nt d)} {top : Q d} (h : ∀ t ∈ ts, t.1 < n + 2 ∧ t.2.1 < n + 2) (hi : i < n) (hj : j < n) : sys n ts top i j = sys n ts top j i := by
  unfold sys
  rw [if_pos hj, if_pos hi, netM_symm h (by omega) (by omega)]
/-- the heights that a net tells -/
def hts (n : Nat) (ts : List (Nt d)) (top : Q d) : Nat → Q d := ext0 n (sol n (sys n ts top)) top
theorem hts_ends {n : Nat} {ts : List (Nt d)} {top : Q d} : hts n ts top 0 = 0 ∧ hts n ts top (n + 1) = top := by
  unfold hts ext0
  exact ⟨if_pos rfl, by rw [if_neg (by omega), if_pos rfl]⟩
/-- at each inner line the widths add up -/
theorem hts_bal {n l : Nat} {ts : List (Nt d)} {top : Q d} (h : ∀ t ∈ ts, t.1 < n + 2 ∧ t.2.1 < n + 2) (hp : ∀ t ∈ ts, 0 < t.2.2) (hc : Conn (n + 2) ts) (h1 : 1 ≤ l) (h2 : l ≤ n) : en (dl l) (hts n ts top) ts = 0 := by
  obtain ⟨i, rfl⟩ : ∃ i, l = i + 1 := ⟨l - 1, by omega⟩
  rw [← bf_net h, bf_dl (by omega)]
  unfold hts
  rw [row_ext, ← sys_in (top := top), sol_ok n (sys_pd h hp hc) i (by omega)]
  unfold sys
  rw [if_neg (by omega)]
  grind
/-- only they do -/
theorem hts_only {n : Nat} {ts : List (Nt d)} {top : Q d} {g : Nat → Q d} (h : ∀ t ∈ ts, t.1 < n + 2 ∧ t.2.1 < n + 2) (hp : ∀ t ∈ ts, 0 < t.2.2) (hc : Conn (n + 2) ts) (g0 : g 0 = 0) (g1 : g (n + 1) = top) (hb : ∀ l, 1 ≤ l → l ≤ n → en (dl l) g ts = 0) : ∀ i, i < n + 2 → g i = hts n ts top i := fun i hi => by
  have key : ∀ i, i < n → g (i + 1) = sol n (sys n ts top) i := unique (u := fun i => g (i + 1)) (sys_pd (top := top) h hp hc) fun i hi => by
    rw [sol_ok n (sys_pd h hp hc) i hi, sys_in]
    have z := hb (i + 1) (by omega) (by omega)
    rw [← bf_net h, bf_dl (by omega), sm_ext, g0, g1] at z
    unfold sys
    rw [if_neg (by omega)]
    grind
  unfold hts
  by_cases c0 : i = 0
  · rw [c0, g0]; unfold ext0; rw [if_pos rfl]
  · by_cases c1 : i = n + 1
    · rw [c1, g1]; unfold ext0; rw [if_neg (by omega), if_pos rfl]
    · obtain ⟨j, rfl⟩ : ∃ j, i = j + 1 := ⟨i - 1, by omega⟩
      rw [ext_in (by omega), key j (by omega)]
end LX

set_option Elab.async false
set_option linter.all false
set_option maxRecDepth 100000
set_option maxHeartbeats 4000000
namespace K81
open PySem PySem.Spec PyProof.Rows L2 PV
def topS (i : Nat) : Stmt := PySem.Challenge.pw_likesheets_k81_heights_by_nets.main.body.getD i (.Pass ⟨0, 0, 0, 0⟩)
def cst : List (Str × PyData) := []
def cut0 : List (Str × List Fn) := []
def t_0 : List (Str × Fn) := []
def ib_common_divisor_1 : Ss :=
  (.cons (.par 0 1 (.v 1) (.bin .mod (.v 0) (.v 1)))
  .nil)
def iw_common_divisor_1 : E :=
  (.cmp .gt (.v 1) (.c (.int 0)))
def ir_common_divisor : Ss :=
  (.cons (.while_ iw_common_divisor_1 ib_common_divisor_1)
  (.cons (.ret (.v 0))
  .nil))
def f_common_divisor : Fn := evDef FUEL 2 2 ir_common_divisor
theorem cm_common_divisor : compDef ⟨["first", "second"], fun x => t_0.lookup x, fun x => cst.lookup x, fun x => cut0.lookup x, false, [], []⟩ (topS 1) = some ir_common_divisor := by kernel_rfl
theorem sc_common_divisor : FnScope ["first", "second"] ["first", "second"] (defScope (topS 1)) := ⟨rfl, rfl, rfl, by decide +kernel, rfl, by decide +kernel, by decide +kernel⟩
def t_1 : List (Str × Fn) := ("common_divisor", f_common_divisor) :: t_0
def ir_common_of_three : Ss :=
  (.cons (.ret (.call f_common_divisor (.cons (.call f_common_divisor (.cons (.bi .abs (.cons (.v 0) .nil)) (.cons (.bi .abs (.cons (.v 1) .nil)) .nil))) (.cons (.bi .abs (.cons (.v 2) .nil)) .nil))))
  .nil)
def f_common_of_three : Fn := evDef FUEL 3 3 ir_common_of_three
theorem cm_common_of_three : compDef ⟨["p", "q", "s"], fun x => t_1.lookup x, fun x => cst.lookup x, fun x => cut0.lookup x, false, [], []⟩ (topS 2) = some ir_common_of_three := by kernel_rfl
theorem sc_common_of_three : FnScope ["p", "q", "s"] ["p", "q", "s"] (defScope (topS 2)) := ⟨rfl, rfl, rfl, by decide +kernel, rfl, by decide +kernel, by decide +kernel⟩
def t_2 : List (Str × Fn) := ("common_of_three", f_common_of_three) :: t_1
def ir_length : Ss :=
  (.cons (.asgs 3 (.call f_common_of_three (.cons (.v 0) (.cons (.v 1) (.cons (.v 2) .nil)))))
  (.cons (.ite (.cmp .lt (.v 2) (.c (.int 0))) (.cons (.asgs 3 (.neg (.v 3)))
  .nil) .nil)
  (.cons (.ret (.tup (.cons (.bin .fdiv (.v 0) (.v 3)) (.cons (.bin .fdiv (.v 1) (.v 3)) (.cons (.bin .fdiv (.v 2) (.v 3)) .nil)))))
  .nil)))
def f_length : Fn := evDef FUEL 3 4 ir_length
theorem cm_length : compDef ⟨["p", "q", "s", "divisor"], fun x => t_2.lookup x, fun x => cst.lookup x, fun x => cut0.lookup x, false, [], []⟩ (topS 3) = some ir_length := by kernel_rfl
theorem sc_length : FnScope ["p", "q", "s", "divisor"] ["p", "q", "s"] (defScope (topS 3)) := ⟨rfl, rfl, rfl, by decide +kernel, rfl, by decide +kernel, by decide +kernel⟩
def t_3 : List (Str × Fn) := ("length", f_length) :: t_2
def ir_whole : Ss :=
  (.cons (.ret (.tup (.cons (.v 0) (.cons (.c (.int 0)) (.cons (.c (.int 1)) .nil)))))
  .nil)
def f_whole : Fn := evDef FUEL 1 1 ir_whole
theorem cm_whole : compDef ⟨["p"], fun x => t_3.lookup x, fun x => cst.lookup x, fun x => cut0.lookup x, false, [], []⟩ (topS 4) = some ir_whole := by kernel_rfl
theorem sc_whole : FnScope ["p"] ["p"] (defScope (topS 4)) := ⟨rfl, rfl, rfl, by decide +kernel, rfl, by decide +kernel, by decide +kernel⟩
def t_4 : List (Str × Fn) := ("whole", f_whole) :: t_3
def ir_plus : Ss :=
  (.cons (.asg (.thr (.nm 2) (.nm 3) (.nm 4)) (.v 0))
  (.cons (.asg (.thr (.nm 5) (.nm 6) (.nm 7)) (.v 1))
  (.cons (.ret (.call f_length (.cons (.bin .add (.bin .mul (.v 2) (.v 7)) (.bin .mul (.v 5) (.v 4))) (.cons (.bin .add (.bin .mul (.v 3) (.v 7)) (.bin .mul (.v 6) (.v 4))) (.cons (.bin .mul (.v 4) (.v 7)) .nil)))))
  .nil)))
def f_plus : Fn := evDef FUEL 2 8 ir_plus
theorem cm_plus : compDef ⟨["first", "second", "p", "q", "s", "other_p", "other_q", "other_s"], fun x => t_4.lookup x, fun x => cst.lookup x, fun x => cut0.lookup x, false, [], []⟩ (topS 5) = some ir_plus := by kernel_rfl
theorem sc_plus : FnScope ["first", "second", "p", "q", "s", "other_p", "other_q", "other_s"] ["first", "second"] (defScope (topS 5)) := ⟨rfl, rfl, rfl, by decide +kernel, rfl, by decide +kernel, by decide +kernel⟩
def t_5 : List (Str × Fn) := ("plus", f_plus) :: t_4
def ir_negative : Ss :=
  (.cons (.asg (.thr (.nm 1) (.nm 2) (.nm 3)) (.v 0))
  (.cons (.ret (.tup (.cons (.neg (.v 1)) (.cons (.neg (.v 2)) (.cons (.v 3) .nil)))))
  .nil))
def f_negative : Fn := evDef FUEL 1 4 ir_negative
theorem cm_negative : compDef ⟨["number", "p", "q", "s"], fun x => t_5.lookup x, fun x => cst.lookup x, fun x => cut0.lookup x, false, [], []⟩ (topS 6) = some ir_negative := by kernel_rfl
theorem sc_negative : FnScope ["number", "p", "q", "s"] ["number"] (defScope (topS 6)) := ⟨rfl, rfl, rfl, by decide +kernel, rfl, by decide +kernel, by decide +kernel⟩
def t_6 : List (Str × Fn) := ("negative", f_negative) :: t_5
def ir_minus : Ss :=
  (.cons (.ret (.call f_plus (.cons (.v 0) (.cons (.call f_negative (.cons (.v 1) .nil)) .nil))))
  .nil)
def f_minus : Fn := evDef FUEL 2 2 ir_minus
theorem cm_minus : compDef ⟨["first", "second"], fun x => t_6.lookup x, fun x => cst.lookup x, fun x => cut0.lookup x, false, [], []⟩ (topS 7) = some ir_minus := by kernel_rfl
theorem sc_minus : FnScope ["first", "second"] ["first", "second"] (defScope (topS 7)) := ⟨rfl, rfl, rfl, by decide +kernel, rfl, by decide +kernel, by decide +kernel⟩
def t_7 : List (Str × Fn) := ("minus", f_minus) :: t_6
def ir_times : Ss :=
  (.cons (.asg (.thr (.nm 3) (.nm 4) (.nm 5)) (.v 1))
  (.cons (.asg (.thr (.nm 6) (.nm 7) (.nm 8)) (.v 2))
  (.cons (.ret (.call f_length (.cons (.bin .add (.bin .mul (.v 3) (.v 6)) (.bin .mul (.bin .mul (.v 0) (.v 4)) (.v 7))) (.cons (.bin .add (.bin .mul (.v 3) (.v 7)) (.bin .mul (.v 4) (.v 6))) (.cons (.bin .mul (.v 5) (.v 8)) .nil)))))
  .nil)))
def f_times : Fn := evDef FUEL 3 9 ir_times
theorem cm_times : compDef ⟨["root", "first", "second", "p", "q", "s", "other_p", "other_q", "other_s"], fun x => t_7.lookup x, fun x => cst.lookup x, fun x => cut0.lookup x, false, [], []⟩ (topS 8) = some ir_times := by kernel_rfl
theorem sc_times : FnScope ["root", "first", "second", "p", "q", "s", "other_p", "other_q", "other_s"] ["root", "first", "second"] (defScope (topS 8)) := ⟨rfl, rfl, rfl, by decide +kernel, rfl, by decide +kernel, by decide +kernel⟩
def t_8 : List (Str × Fn) := ("times", f_times) :: t_7
def ir_inverse : Ss :=
  (.cons (.asg (.thr (.nm 2) (.nm 3) (.nm 4)) (.v 1))
  (.cons (.ret (.call f_length (.cons (.bin .mul (.v 4) (.v 2)) (.cons (.bin .mul (.neg (.v 4)) (.v 3)) (.cons (.bin .sub (.bin .mul (.v 2) (.v 2)) (.bin .mul (.bin .mul (.v 0) (.v 3)) (.v 3))) .nil)))))
  .nil))
def f_inverse : Fn := evDef FUEL 2 5 ir_inverse
theorem cm_inverse : compDef ⟨["root", "number", "p", "q", "s"], fun x => t_8.lookup x, fun x => cst.lookup x, fun x => cut0.lookup x, false, [], []⟩ (topS 9) = some ir_inverse := by kernel_rfl
theorem sc_inverse : FnScope ["root", "number", "p", "q", "s"] ["root", "number"] (defScope (topS 9)) := ⟨rfl, rfl, rfl, by decide +kernel, rfl, by decide +kernel, by decide +kernel⟩
def t_9 : List (Str × Fn) := ("inverse", f_inverse) :: t_8
def ir_over : Ss :=
  (.cons (.ret (.call f_times (.cons (.v 0) (.cons (.v 1) (.cons (.call f_inverse (.cons (.v 0) (.cons (.v 2) .nil))) .nil)))))
  .nil)
def f_over : Fn := evDef FUEL 3 3 ir_over
theorem cm_over : compDef ⟨["root", "first", "second"], fun x => t_9.lookup x, fun x => cst.lookup x, fun x => cut0.lookup x, false, [], []⟩ (topS 10) = some ir_over := by kernel_rfl
theorem sc_over : FnScope ["root", "first", "second"] ["root", "first", "second"] (defScope (topS 10)) := ⟨rfl, rfl, rfl, by decide +kernel, rfl, by decide +kernel, by decide +kernel⟩
def t_10 : List (Str × Fn) := ("over", f_over) :: t_9
def ib_equations_of_1 : Ss :=
  (.cons (.put2 4 (.v 5) (.v 5) (.call f_plus (.cons (.ix2 4 (.v 5) (.v 5)) (.cons (.v 9) .nil))))
  (.cons (.put2 4 (.v 5) (.v 10) (.call f_minus (.cons (.ix2 4 (.v 5) (.v 10)) (.cons (.v 9) .nil))))
  .nil))
def ib_equations_of_2 : Ss :=
  (.cons (.asg (.two (.nm 7) (.nm 8)) (.ix (.v 2) (.v 6)))
  (.cons (.asgs 9 (.ix (.v 3) (.v 6)))
  (.cons (.for_ (.two (.nm 5) (.nm 10)) (.seq (.lst (.cons (.tup (.cons (.v 7) (.cons (.v 8) .nil))) (.cons (.tup (.cons (.v 8) (.cons (.v 7) .nil))) .nil)))) ib_equations_of_1)
  .nil)))
def ir_equations_of : Ss :=
  (.cons (.newD 4 [5] (.nm 5) (.rng (.cons (.v 1) .nil)) (.bin .mul (.lst (.cons (.call f_whole (.cons (.c (.int 0)) .nil)) .nil)) (.v 1)))
  (.cons (.for_ (.nm 6) (.rng (.cons (.bi .len (.cons (.v 2) .nil)) .nil)) ib_equations_of_2)
  (.cons (.ret (.v 4))
  .nil)))
def f_equations_of : Fn := evDef FUEL 4 11 ir_equations_of
theorem cm_equations_of : compDef ⟨["root", "count", "net", "widths_by_height", "rows", "line", "at", "low", "high", "share", "other"], fun x => t_10.lookup x, fun x => cst.lookup x, fun x => cut0.lookup x, false, [], []⟩ (topS 12) = some ir_equations_of := by kernel_rfl
theorem sc_equations_of : FnScope ["root", "count", "net", "widths_by_height", "rows", "line", "at", "low", "high", "share", "other"] ["root", "count", "net", "widths_by_height"] (defScope (topS 12)) := ⟨rfl, rfl, rfl, by decide +kernel, rfl, by decide +kernel, by decide +kernel⟩
def t_11 : List (Str × Fn) := ("equations_of", f_equations_of) :: t_10
def ic_without_column_1 : E :=
  (.comp [8] (.nm 8) (.rng (.cons (.bi .len (.cons (.v 6) .nil)) .nil)) .no (.call f_minus (.cons (.ix (.v 6) (.v 8)) (.cons (.call f_times (.cons (.v 0) (.cons (.v 7) (.cons (.ix (.v 4) (.v 8)) .nil)))) .nil))))
def ib_without_column_2 : Ss :=
  (.cons (.asgs 7 (.call f_over (.cons (.v 0) (.cons (.ix (.v 6) (.v 3)) (.cons (.ix (.v 4) (.v 3)) .nil)))))
  (.cons (.app 5 ic_without_column_1)
  .nil))
def ir_without_column : Ss :=
  (.cons (.asgs 4 (.ix (.v 1) (.v 2)))
  (.cons (.asg (.nm 5) (.lst .nil))
  (.cons (.for_ (.nm 6) (.seq (.sl (.v 1) (.yes (.bin .add (.v 2) (.c (.int 1)))) .no)) ib_without_column_2)
  (.cons (.ret (.bin .add (.sl (.v 1) .no (.yes (.bin .add (.v 2) (.c (.int 1))))) (.v 5)))
  .nil))))
def f_without_column : Fn := evDef FUEL 4 9 ir_without_column
theorem cm_without_column : compDef ⟨["root", "rows", "at", "column", "lead", "found", "row", "share", "k"], fun x => t_11.lookup x, fun x => cst.lookup x, fun x => cut0.lookup x, false, [], []⟩ (topS 13) = some ir_without_column := by kernel_rfl
theorem sc_without_column : FnScope ["root", "rows", "at", "column", "lead", "found", "row", "share", "k"] ["root", "rows", "at", "column"] (defScope (topS 13)) := ⟨rfl, rfl, rfl, by decide +kernel, rfl, by decide +kernel, by decide +kernel⟩
def t_12 : List (Str × Fn) := ("without_column", f_without_column) :: t_11
def ib_solved_1 : Ss :=
  (.cons (.asgs 3 (.call f_without_column (.cons (.v 0) (.cons (.v 3) (.cons (.v 4) (.cons (.v 4) .nil))))))
  .nil)
def ib_solved_2 : Ss :=
  (.cons (.asgs 6 (.call f_minus (.cons (.v 6) (.cons (.call f_times (.cons (.v 0) (.cons (.ix (.ix (.v 3) (.v 4)) (.v 7)) (.cons (.ix (.v 5) (.v 7)) .nil)))) .nil))))
  .nil)
def ib_solved_3 : Ss :=
  (.cons (.asgs 6 (.ix (.ix (.v 3) (.v 4)) (.v 2)))
  (.cons (.for_ (.nm 7) (.rng (.cons (.bin .add (.v 4) (.c (.int 1))) (.cons (.v 2) .nil))) ib_solved_2)
  (.cons (.put 5 (.v 4) (.call f_over (.cons (.v 0) (.cons (.v 6) (.cons (.ix (.ix (.v 3) (.v 4)) (.v 4)) .nil)))))
  .nil)))
def ir_solved : Ss :=
  (.cons (.asgs 3 (.v 1))
  (.cons (.for_ (.nm 4) (.rng (.cons (.v 2) .nil)) ib_solved_1)
  (.cons (.asg (.nm 5) (.bin .mul (.lst (.cons (.call f_whole (.cons (.c (.int 0)) .nil)) .nil)) (.v 2)))
  (.cons (.for_ (.nm 4) (.seq (.rev (.rngl (.cons (.v 2) .nil)))) ib_solved_3)
  (.cons (.ret (.v 5))
  .nil)))))
def f_solved : Fn := evDef FUEL 3 8 ir_solved
theorem cm_solved : compDef ⟨["root", "rows", "count", "left", "at", "values", "total", "other"], fun x => t_12.lookup x, fun x => cst.lookup x, fun x => cut0.lookup x, false, [], []⟩ (topS 14) = some ir_solved := by kernel_rfl
theorem sc_solved : FnScope ["root", "rows", "count", "left", "at", "values", "total", "other"] ["root", "rows", "count"] (defScope (topS 14)) := ⟨rfl, rfl, rfl, by decide +kernel, rfl, by decide +kernel, by decide +kernel⟩
def t_13 : List (Str × Fn) := ("solved", f_solved) :: t_12
def ic_heights_by_1 : E :=
  (.comp [10] (.nm 10) (.seq (.v 5)) .no (.ix (.ix (.v 6) (.v 8)) (.v 10)))
def ib_heights_by_2 : Ss :=
  (.cons (.asgs 9 (.call f_times (.cons (.v 0) (.cons (.ix (.ix (.v 6) (.v 8)) (.bin .sub (.v 1) (.c (.int 1)))) (.cons (.v 4) .nil)))))
  (.cons (.app 7 (.bin .add ic_heights_by_1 (.lst (.cons (.call f_minus (.cons (.call f_whole (.cons (.c (.int 0)) .nil)) (.cons (.v 9) .nil))) .nil))))
  .nil))
def ir_heights_by : Ss :=
  (.cons (.ite (.cmp .eq (.v 1) (.c (.int 2))) (.cons (.ret (.lst (.cons (.call f_whole (.cons (.c (.int 0)) .nil)) (.cons (.v 4) .nil))))
  .nil) .nil)
  (.cons (.asgs 5 (.rngl (.cons (.c (.int 1)) (.cons (.bin .sub (.v 1) (.c (.int 1))) .nil))))
  (.cons (.asgs 6 (.call f_equations_of (.cons (.v 0) (.cons (.v 1) (.cons (.v 2) (.cons (.v 3) .nil))))))
  (.cons (.asg (.nm 7) (.lst .nil))
  (.cons (.for_ (.nm 8) (.seq (.v 5)) ib_heights_by_2)
  (.cons (.ret (.bin .add (.bin .add (.lst (.cons (.call f_whole (.cons (.c (.int 0)) .nil)) .nil)) (.call f_solved (.cons (.v 0) (.cons (.v 7) (.cons (.bin .sub (.v 1) (.c (.int 2))) .nil))))) (.lst (.cons (.v 4) .nil))))
  .nil))))))
def f_heights_by : Fn := evDef FUEL 5 11 ir_heights_by
theorem cm_heights_by : compDef ⟨["root", "count", "net", "widths_by_height", "top", "inner", "rows", "told", "line", "known", "other"], fun x => t_13.lookup x, fun x => cst.lookup x, fun x => cut0.lookup x, false, [], []⟩ (topS 15) = some ir_heights_by := by kernel_rfl
theorem sc_heights_by : FnScope ["root", "count", "net", "widths_by_height", "top", "inner", "rows", "told", "line", "known", "other"] ["root", "count", "net", "widths_by_height", "top"] (defScope (topS 15)) := ⟨rfl, rfl, rfl, by decide +kernel, rfl, by decide +kernel, by decide +kernel⟩
def t_14 : List (Str × Fn) := ("heights_by", f_heights_by) :: t_13
def ib__law_draws_1 : Ss :=
  (.cons (.ite (.cmp .gt (.v 4) (.c (.int 0))) (.cons (.app 2 (.bin .mod (.v 4) (.c (.int 1000003))))
  (.cons (.asgs 4 (.bin .fdiv (.v 4) (.c (.int 1000003))))
  .nil)) .nil)
  .nil)
def ib__law_draws_2 : Ss :=
  (.cons (.asgs 6 (.bin .mod (.bin .add (.bin .add (.bin .add (.bin .mul (.v 6) (.c (.int 69621))) (.bin .fdiv (.v 6) (.c (.int 65536)))) (.bin .mul (.c (.int 13)) (.v 5))) (.c (.int 5))) (.c (.int 2147483629))))
  (.cons (.app 2 (.bin .mod (.bin .fdiv (.v 6) (.c (.int 8))) (.c (.int 1000003))))
  .nil))
def ib__law_draws_3 : Ss :=
  (.cons (.asgs 4 (.bi .abs (.cons (.bi .int (.cons (.v 3) .nil)) .nil)))
  (.cons (.ite (.cmp .ge (.v 4) (.bin .pow (.c (.int 10)) (.c (.int 18)))) (.cons (.for_ (.nm 5) (.rng (.cons (.c (.int 60)) .nil)) ib__law_draws_1)
  .nil) (.cons (.asgs 6 (.bin .mod (.bin .add (.bin .add (.bin .mul (.v 4) (.c (.int 48271))) (.bin .mul (.c (.int 7)) (.bi .len (.cons (.v 2) .nil)))) (.c (.int 11))) (.c (.int 2147483647))))
  (.cons (.for_ (.nm 5) (.rng (.cons (.c (.int 4)) .nil)) ib__law_draws_2)
  .nil)))
  .nil))
def ib__law_draws_4 : Ss :=
  (.cons (.ite (.cmp .lt (.bi .len (.cons (.v 2) .nil)) (.v 1)) (.cons (.asgs 7 (.c (.int 0)))
  (.cons (.ite (.cmp .gt (.bi .len (.cons (.v 2) .nil)) (.c (.int 0))) (.cons (.asgs 7 (.ix (.v 2) (.bin .mod (.v 5) (.bi .len (.cons (.v 2) .nil)))))
  .nil) .nil)
  (.cons (.app 2 (.bin .mod (.bin .add (.bin .add (.bin .mul (.v 7) (.c (.int 16807))) (.bin .mul (.c (.int 31)) (.bi .len (.cons (.v 2) .nil)))) (.c (.int 17))) (.c (.int 1000003))))
  .nil))) .nil)
  .nil)
def ir__law_draws : Ss :=
  (.cons (.asg (.nm 2) (.lst .nil))
  (.cons (.for_ (.nm 3) (.seq (.sl (.v 0) .no (.yes (.c (.int 63))))) ib__law_draws_3)
  (.cons (.for_ (.nm 5) (.rng (.cons (.v 1) .nil)) ib__law_draws_4)
  (.cons (.ret (.sl (.v 2) .no (.yes (.v 1))))
  .nil))))
def f__law_draws : Fn := evDef FUEL 2 8 ir__law_draws
theorem cm__law_draws : compDef ⟨["script", "many", "found", "cell", "number", "k", "mixed", "base"], fun x => t_14.lookup x, fun x => cst.lookup x, fun x => cut0.lookup x, false, [], []⟩ (topS 17) = some ir__law_draws := by kernel_rfl
theorem sc__law_draws : FnScope ["script", "many", "found", "cell", "number", "k", "mixed", "base"] ["script", "many"] (defScope (topS 17)) := ⟨rfl, rfl, rfl, by decide +kernel, rfl, by decide +kernel, by decide +kernel⟩
def t_15 : List (Str × Fn) := ("_law_draws", f__law_draws) :: t_14
def ir__law_cell : Ss :=
  (.cons (.ite (.cmp .lt (.v 1) (.bi .len (.cons (.v 0) .nil))) (.cons (.ret (.ix (.v 0) (.v 1)))
  .nil) .nil)
  (.cons (.ret (.bin .mod (.bin .add (.bin .add (.bin .mul (.ix (.v 0) (.bin .mod (.v 1) (.bi .len (.cons (.v 0) .nil)))) (.c (.int 31))) (.bin .mul (.ix (.v 0) (.bin .mod (.bin .mul (.c (.int 7)) (.v 1)) (.bi .len (.cons (.v 0) .nil)))) (.c (.int 17)))) (.bin .mul (.c (.int 101)) (.v 1))) (.c (.int 1000003))))
  .nil))
def f__law_cell : Fn := evDef FUEL 2 2 ir__law_cell
theorem cm__law_cell : compDef ⟨["draws", "k"], fun x => t_15.lookup x, fun x => cst.lookup x, fun x => cut0.lookup x, false, [], []⟩ (topS 18) = some ir__law_cell := by kernel_rfl
theorem sc__law_cell : FnScope ["draws", "k"] ["draws", "k"] (defScope (topS 18)) := ⟨rfl, rfl, rfl, by decide +kernel, rfl, by decide +kernel, by decide +kernel⟩
def t_16 : List (Str × Fn) := ("_law_cell", f__law_cell) :: t_15
def ir__law_is_number : Ss :=
  (.cons (.ret (.and (.bi .isInt (.cons (.v 0) .nil)) (.not (.bi .isBool (.cons (.v 0) .nil)))))
  .nil)
def f__law_is_number : Fn := evDef FUEL 1 1 ir__law_is_number
theorem cm__law_is_number : compDef ⟨["value"], fun x => t_16.lookup x, fun x => cst.lookup x, fun x => cut0.lookup x, false, [], []⟩ (topS 19) = some ir__law_is_number := by kernel_rfl
theorem sc__law_is_number : FnScope ["value"] ["value"] (defScope (topS 19)) := ⟨rfl, rfl, rfl, by decide +kernel, rfl, by decide +kernel, by decide +kernel⟩
def t_17 : List (Str × Fn) := ("_law_is_number", f__law_is_number) :: t_16
def ib__law_is_numbers_1 : Ss :=
  (.cons (.ite (.not (.call f__law_is_number (.cons (.v 1) .nil))) (.cons (.ret (.c (.bool false)))
  .nil) .nil)
  .nil)
def ir__law_is_numbers : Ss :=
  (.cons (.ite (.not (.bi .isList (.cons (.v 0) .nil))) (.cons (.ret (.c (.bool false)))
  .nil) .nil)
  (.cons (.for_ (.nm 1) (.seq (.v 0)) ib__law_is_numbers_1)
  (.cons (.ret (.c (.bool true)))
  .nil)))
def f__law_is_numbers : Fn := evDef FUEL 1 2 ir__law_is_numbers
theorem cm__law_is_numbers : compDef ⟨["value", "item"], fun x => t_17.lookup x, fun x => cst.lookup x, fun x => cut0.lookup x, false, [], []⟩ (topS 20) = some ir__law_is_numbers := by kernel_rfl
theorem sc__law_is_numbers : FnScope ["value", "item"] ["value"] (defScope (topS 20)) := ⟨rfl, rfl, rfl, by decide +kernel, rfl, by decide +kernel, by decide +kernel⟩
def t_18 : List (Str × Fn) := ("_law_is_numbers", f__law_is_numbers) :: t_17
def ir__law_root : Ss :=
  (.cons (.ret (.ix (.lst (.cons (.c (.int 2)) (.cons (.c (.int 3)) (.cons (.c (.int 5)) (.cons (.c (.int 6)) (.cons (.c (.int 7)) (.cons (.c (.int 8)) (.cons (.c (.int 10)) (.cons (.c (.int 11)) (.cons (.c (.int 13)) (.cons (.c (.int 14)) (.cons (.c (.int 15)) (.cons (.c (.int 17)) (.cons (.c (.int 19)) (.cons (.c (.int 21)) (.cons (.c (.int 23)) (.cons (.c (.int 29)) (.cons (.c (.int 31)) (.cons (.c (.int 37)) (.cons (.c (.int 41)) (.cons (.c (.int 46)) (.cons (.c (.int 50)) .nil)))))))))))))))))))))) (.bin .mod (.v 0) (.c (.int 21)))))
  .nil)
def f__law_root : Fn := evDef FUEL 1 1 ir__law_root
theorem cm__law_root : compDef ⟨["cell"], fun x => t_18.lookup x, fun x => cst.lookup x, fun x => cut0.lookup x, false, [], []⟩ (topS 21) = some ir__law_root := by kernel_rfl
theorem sc__law_root : FnScope ["cell"] ["cell"] (defScope (topS 21)) := ⟨rfl, rfl, rfl, by decide +kernel, rfl, by decide +kernel, by decide +kernel⟩
def t_19 : List (Str × Fn) := ("_law_root", f__law_root) :: t_18
def ib__law_common_1 : Ss :=
  (.cons (.par 0 1 (.v 1) (.bin .mod (.v 0) (.v 1)))
  .nil)
def iw__law_common_1 : E :=
  (.cmp .ne (.v 1) (.c (.int 0)))
def ir__law_common : Ss :=
  (.cons (.par 0 1 (.bi .abs (.cons (.v 0) .nil)) (.bi .abs (.cons (.v 1) .nil)))
  (.cons (.while_ iw__law_common_1 ib__law_common_1)
  (.cons (.ret (.v 0))
  .nil)))
def f__law_common : Fn := evDef FUEL 2 2 ir__law_common
theorem cm__law_common : compDef ⟨["first", "second"], fun x => t_19.lookup x, fun x => cst.lookup x, fun x => cut0.lookup x, false, [], []⟩ (topS 22) = some ir__law_common := by kernel_rfl
theorem sc__law_common : FnScope ["first", "second"] ["first", "second"] (defScope (topS 22)) := ⟨rfl, rfl, rfl, by decide +kernel, rfl, by decide +kernel, by decide +kernel⟩
def t_20 : List (Str × Fn) := ("_law_common", f__law_common) :: t_19
def ir__law_length : Ss :=
  (.cons (.asgs 3 (.bin .mul (.call f__law_common (.cons (.call f__law_common (.cons (.v 0) (.cons (.v 1) .nil))) (.cons (.v 2) .nil))) (.bin .sub (.c (.int 1)) (.bin .mul (.c (.int 2)) (.bi .int (.cons (.cmp .lt (.v 2) (.c (.int 0))) .nil))))))
  (.cons (.ret (.tup (.cons (.bin .fdiv (.v 0) (.v 3)) (.cons (.bin .fdiv (.v 1) (.v 3)) (.cons (.bin .fdiv (.v 2) (.v 3)) .nil)))))
  .nil))
def f__law_length : Fn := evDef FUEL 3 4 ir__law_length
theorem cm__law_length : compDef ⟨["p", "q", "s", "common"], fun x => t_20.lookup x, fun x => cst.lookup x, fun x => cut0.lookup x, false, [], []⟩ (topS 23) = some ir__law_length := by kernel_rfl
theorem sc__law_length : FnScope ["p", "q", "s", "common"] ["p", "q", "s"] (defScope (topS 23)) := ⟨rfl, rfl, rfl, by decide +kernel, rfl, by decide +kernel, by decide +kernel⟩
def t_21 : List (Str × Fn) := ("_law_length", f__law_length) :: t_20
def ir__law_whole : Ss :=
  (.cons (.ret (.tup (.cons (.v 0) (.cons (.c (.int 0)) (.cons (.c (.int 1)) .nil)))))
  .nil)
def f__law_whole : Fn := evDef FUEL 1 1 ir__law_whole
theorem cm__law_whole : compDef ⟨["p"], fun x => t_21.lookup x, fun x => cst.lookup x, fun x => cut0.lookup x, false, [], []⟩ (topS 24) = some ir__law_whole := by kernel_rfl
theorem sc__law_whole : FnScope ["p"] ["p"] (defScope (topS 24)) := ⟨rfl, rfl, rfl, by decide +kernel, rfl, by decide +kernel, by decide +kernel⟩
def t_22 : List (Str × Fn) := ("_law_whole", f__law_whole) :: t_21
def ir__law_plus : Ss :=
  (.cons (.ret (.call f__law_length (.cons (.bin .add (.bin .mul (.ix (.v 0) (.c (.int 0))) (.ix (.v 1) (.c (.int 2)))) (.bin .mul (.ix (.v 1) (.c (.int 0))) (.ix (.v 0) (.c (.int 2))))) (.cons (.bin .add (.bin .mul (.ix (.v 0) (.c (.int 1))) (.ix (.v 1) (.c (.int 2)))) (.bin .mul (.ix (.v 1) (.c (.int 1))) (.ix (.v 0) (.c (.int 2))))) (.cons (.bin .mul (.ix (.v 0) (.c (.int 2))) (.ix (.v 1) (.c (.int 2)))) .nil)))))
  .nil)
def f__law_plus : Fn := evDef FUEL 2 2 ir__law_plus
theorem cm__law_plus : compDef ⟨["first", "second"], fun x => t_22.lookup x, fun x => cst.lookup x, fun x => cut0.lookup x, false, [], []⟩ (topS 25) = some ir__law_plus := by kernel_rfl
theorem sc__law_plus : FnScope ["first", "second"] ["first", "second"] (defScope (topS 25)) := ⟨rfl, rfl, rfl, by decide +kernel, rfl, by decide +kernel, by decide +kernel⟩
def t_23 : List (Str × Fn) := ("_law_plus", f__law_plus) :: t_22
def ir__law_minus : Ss :=
  (.cons (.ret (.call f__law_plus (.cons (.v 0) (.cons (.tup (.cons (.neg (.ix (.v 1) (.c (.int 0)))) (.cons (.neg (.ix (.v 1) (.c (.int 1)))) (.cons (.ix (.v 1) (.c (.int 2))) .nil)))) .nil))))
  .nil)
def f__law_minus : Fn := evDef FUEL 2 2 ir__law_minus
theorem cm__law_minus : compDef ⟨["first", "second"], fun x => t_23.lookup x, fun x => cst.lookup x, fun x => cut0.lookup x, false, [], []⟩ (topS 26) = some ir__law_minus := by kernel_rfl
theorem sc__law_minus : FnScope ["first", "second"] ["first", "second"] (defScope (topS 26)) := ⟨rfl, rfl, rfl, by decide +kernel, rfl, by decide +kernel, by decide +kernel⟩
def t_24 : List (Str × Fn) := ("_law_minus", f__law_minus) :: t_23
def ir__law_times : Ss :=
  (.cons (.asgs 3 (.bin .add (.bin .mul (.ix (.v 1) (.c (.int 0))) (.ix (.v 2) (.c (.int 0)))) (.bin .mul (.bin .mul (.v 0) (.ix (.v 1) (.c (.int 1)))) (.ix (.v 2) (.c (.int 1))))))
  (.cons (.ret (.call f__law_length (.cons (.v 3) (.cons (.bin .add (.bin .mul (.ix (.v 1) (.c (.int 0))) (.ix (.v 2) (.c (.int 1)))) (.bin .mul (.ix (.v 1) (.c (.int 1))) (.ix (.v 2) (.c (.int 0))))) (.cons (.bin .mul (.ix (.v 1) (.c (.int 2))) (.ix (.v 2) (.c (.int 2)))) .nil)))))
  .nil))
def f__law_times : Fn := evDef FUEL 3 4 ir__law_times
theorem cm__law_times : compDef ⟨["root", "first", "second", "p"], fun x => t_24.lookup x, fun x => cst.lookup x, fun x => cut0.lookup x, false, [], []⟩ (topS 27) = some ir__law_times := by kernel_rfl
theorem sc__law_times : FnScope ["root", "first", "second", "p"] ["root", "first", "second"] (defScope (topS 27)) := ⟨rfl, rfl, rfl, by decide +kernel, rfl, by decide +kernel, by decide +kernel⟩
def t_25 : List (Str × Fn) := ("_law_times", f__law_times) :: t_24
def ir__law_sign : Ss :=
  (.cons (.asg (.thr (.nm 2) (.nm 3) (.nm 4)) (.v 1))
  (.cons (.ite (.and (.cmp .ge (.v 2) (.c (.int 0))) (.cmp .ge (.v 3) (.c (.int 0)))) (.cons (.ret (.bi .int (.cons (.cmp .gt (.bin .add (.v 2) (.v 3)) (.c (.int 0))) .nil)))
  .nil) .nil)
  (.cons (.ite (.and (.cmp .le (.v 2) (.c (.int 0))) (.cmp .le (.v 3) (.c (.int 0)))) (.cons (.ret (.neg (.c (.int 1))))
  .nil) .nil)
  (.cons (.asgs 5 (.bin .sub (.bin .mul (.v 2) (.v 2)) (.bin .mul (.bin .mul (.v 0) (.v 3)) (.v 3))))
  (.cons (.ret (.bin .mul (.bin .sub (.c (.int 1)) (.bin .mul (.c (.int 2)) (.bi .int (.cons (.cmp .lt (.v 2) (.c (.int 0))) .nil)))) (.bin .sub (.c (.int 1)) (.bin .mul (.c (.int 2)) (.bi .int (.cons (.cmp .lt (.v 5) (.c (.int 0))) .nil))))))
  .nil)))))
def f__law_sign : Fn := evDef FUEL 2 6 ir__law_sign
theorem cm__law_sign : compDef ⟨["root", "number", "p", "q", "s", "larger"], fun x => t_25.lookup x, fun x => cst.lookup x, fun x => cut0.lookup x, false, [], []⟩ (topS 28) = some ir__law_sign := by kernel_rfl
theorem sc__law_sign : FnScope ["root", "number", "p", "q", "s", "larger"] ["root", "number"] (defScope (topS 28)) := ⟨rfl, rfl, rfl, by decide +kernel, rfl, by decide +kernel, by decide +kernel⟩
def t_26 : List (Str × Fn) := ("_law_sign", f__law_sign) :: t_25
def ir__law_is_length : Ss :=
  (.cons (.ite (.or (.not (.bi .isTuple (.cons (.v 0) .nil))) (.or (.cmp .ne (.bi .len (.cons (.v 0) .nil)) (.c (.int 3))) (.or (.not (.call f__law_is_numbers (.cons (.bi .list (.cons (.v 0) .nil)) .nil))) (.cmp .lt (.ix (.v 0) (.c (.int 2))) (.c (.int 1)))))) (.cons (.ret (.c (.bool false)))
  .nil) .nil)
  (.cons (.ret (.cmp .eq (.call f__law_common (.cons (.call f__law_common (.cons (.ix (.v 0) (.c (.int 0))) (.cons (.ix (.v 0) (.c (.int 1))) .nil))) (.cons (.ix (.v 0) (.c (.int 2))) .nil))) (.c (.int 1))))
  .nil))
def f__law_is_length : Fn := evDef FUEL 1 1 ir__law_is_length
theorem cm__law_is_length : compDef ⟨["value"], fun x => t_26.lookup x, fun x => cst.lookup x, fun x => cut0.lookup x, false, [], []⟩ (topS 29) = some ir__law_is_length := by kernel_rfl
theorem sc__law_is_length : FnScope ["value"] ["value"] (defScope (topS 29)) := ⟨rfl, rfl, rfl, by decide +kernel, rfl, by decide +kernel, by decide +kernel⟩
def t_27 : List (Str × Fn) := ("_law_is_length", f__law_is_length) :: t_26
def ir__law_above : Ss :=
  (.cons (.par 3 4 (.bin .sub (.bin .mod (.call f__law_cell (.cons (.v 0) (.cons (.v 1) .nil))) (.c (.int 17))) (.c (.int 8))) (.bin .sub (.bin .mod (.bin .fdiv (.call f__law_cell (.cons (.v 0) (.cons (.bin .add (.v 1) (.c (.int 1))) .nil))) (.c (.int 3))) (.c (.int 9))) (.c (.int 4))))
  (.cons (.asgs 5 (.call f__law_length (.cons (.v 3) (.cons (.v 4) (.cons (.bin .add (.c (.int 1)) (.bin .mod (.bin .fdiv (.call f__law_cell (.cons (.v 0) (.cons (.bin .add (.v 1) (.c (.int 2))) .nil))) (.c (.int 5))) (.c (.int 4)))) .nil)))))
  (.cons (.asgs 6 (.call f__law_sign (.cons (.v 2) (.cons (.v 5) .nil))))
  (.cons (.ite (.cmp .eq (.v 6) (.c (.int 0))) (.cons (.ret (.tup (.cons (.c (.int 1)) (.cons (.c (.int 0)) (.cons (.c (.int 1)) .nil)))))
  .nil) .nil)
  (.cons (.ret (.tup (.cons (.bin .mul (.ix (.v 5) (.c (.int 0))) (.v 6)) (.cons (.bin .mul (.ix (.v 5) (.c (.int 1))) (.v 6)) (.cons (.ix (.v 5) (.c (.int 2))) .nil)))))
  .nil)))))
def f__law_above : Fn := evDef FUEL 3 7 ir__law_above
theorem cm__law_above : compDef ⟨["draws", "at", "root", "p", "q", "number", "sign"], fun x => t_27.lookup x, fun x => cst.lookup x, fun x => cut0.lookup x, false, [], []⟩ (topS 30) = some ir__law_above := by kernel_rfl
theorem sc__law_above : FnScope ["draws", "at", "root", "p", "q", "number", "sign"] ["draws", "at", "root"] (defScope (topS 30)) := ⟨rfl, rfl, rfl, by decide +kernel, rfl, by decide +kernel, by decide +kernel⟩
def t_28 : List (Str × Fn) := ("_law_above", f__law_above) :: t_27
def ib__law_balanced_1 : Ss :=
  (.cons (.asg (.two (.nm 7) (.nm 8)) (.ix (.v 2) (.v 6)))
  (.cons (.asgs 9 (.call f__law_times (.cons (.v 0) (.cons (.ix (.v 3) (.v 6)) (.cons (.call f__law_minus (.cons (.ix (.v 4) (.v 8)) (.cons (.ix (.v 4) (.v 7)) .nil))) .nil)))))
  (.cons (.put 5 (.v 8) (.call f__law_plus (.cons (.ix (.v 5) (.v 8)) (.cons (.v 9) .nil))))
  (.cons (.put 5 (.v 7) (.call f__law_minus (.cons (.ix (.v 5) (.v 7)) (.cons (.v 9) .nil))))
  .nil))))
def ic__law_balanced_2 : E :=
  (.comp [10] (.nm 10) (.rng (.cons (.c (.int 1)) (.cons (.bin .sub (.v 1) (.c (.int 1))) .nil))) (.yes (.cmp .ne (.ix (.v 5) (.v 10)) (.call f__law_whole (.cons (.c (.int 0)) .nil)))) (.v 10))
def ir__law_balanced : Ss :=
  (.cons (.asg (.nm 5) (.bin .mul (.lst (.cons (.call f__law_whole (.cons (.c (.int 0)) .nil)) .nil)) (.v 1)))
  (.cons (.for_ (.nm 6) (.rng (.cons (.bi .len (.cons (.v 2) .nil)) .nil)) ib__law_balanced_1)
  (.cons (.ret (.cmp .eq ic__law_balanced_2 (.lst .nil)))
  .nil)))
def f__law_balanced : Fn := evDef FUEL 5 11 ir__law_balanced
theorem cm__law_balanced : compDef ⟨["root", "count", "net", "shares", "heights", "sums", "k", "low", "high", "width", "line"], fun x => t_28.lookup x, fun x => cst.lookup x, fun x => cut0.lookup x, false, [], []⟩ (topS 31) = some ir__law_balanced := by kernel_rfl
theorem sc__law_balanced : FnScope ["root", "count", "net", "shares", "heights", "sums", "k", "low", "high", "width", "line"] ["root", "count", "net", "shares", "heights"] (defScope (topS 31)) := ⟨rfl, rfl, rfl, by decide +kernel, rfl, by decide +kernel, by decide +kernel⟩
def t_29 : List (Str × Fn) := ("_law_balanced", f__law_balanced) :: t_28
def ic__law_told_1 : E :=
  (.comp [7] (.nm 7) (.seq (.v 6)) (.yes (.not (.call f__law_is_length (.cons (.v 7) .nil)))) (.v 7))
def ir__law_told : Ss :=
  (.cons (.asgs 5 (.lst (.cons (.bi .list (.cons (.v 2) .nil)) (.cons (.bi .list (.cons (.v 3) .nil)) .nil))))
  (.cons (.asg (.nm 6) (.call f_heights_by (.cons (.v 0) (.cons (.v 1) (.cons (.ix (.v 5) (.c (.int 0))) (.cons (.ix (.v 5) (.c (.int 1))) (.cons (.v 4) .nil)))))))
  (.cons (.ite (.or (.cmp .ne (.v 5) (.lst (.cons (.v 2) (.cons (.v 3) .nil)))) (.or (.not (.bi .isList (.cons (.v 6) .nil))) (.or (.cmp .ne (.bi .len (.cons (.v 6) .nil)) (.v 1)) (.cmp .ne ic__law_told_1 (.lst .nil))))) (.cons (.ret (.c .none))
  .nil) .nil)
  (.cons (.ite (.or (.cmp .ne (.ix (.v 6) (.c (.int 0))) (.call f__law_whole (.cons (.c (.int 0)) .nil))) (.or (.cmp .ne (.ix (.v 6) (.neg (.c (.int 1)))) (.v 4)) (.not (.call f__law_balanced (.cons (.v 0) (.cons (.v 1) (.cons (.v 2) (.cons (.v 3) (.cons (.v 6) .nil))))))))) (.cons (.ret (.c .none))
  .nil) .nil)
  (.cons (.asg (.nm 8) (.bi .list (.cons (.v 6) .nil)))
  (.cons (.app 6 (.c .none))
  (.cons (.ite (.cmp .ne (.call f_heights_by (.cons (.v 0) (.cons (.v 1) (.cons (.ix (.v 5) (.c (.int 0))) (.cons (.ix (.v 5) (.c (.int 1))) (.cons (.v 4) .nil)))))) (.v 8)) (.cons (.ret (.c .none))
  .nil) .nil)
  (.cons (.ret (.v 8))
  .nil))))))))
def f__law_told : Fn := evDef FUEL 5 9 ir__law_told
theorem cm__law_told : compDef ⟨["root", "count", "net", "shares", "top", "passed", "told", "height", "kept"], fun x => t_29.lookup x, fun x => cst.lookup x, fun x => cut0.lookup x, false, [8], []⟩ (topS 32) = some ir__law_told := by kernel_rfl
theorem sc__law_told : FnScope ["root", "count", "net", "shares", "top", "passed", "told", "height", "kept"] ["root", "count", "net", "shares", "top"] (defScope (topS 32)) := ⟨rfl, rfl, rfl, by decide +kernel, rfl, by decide +kernel, by decide +kernel⟩
def t_30 : List (Str × Fn) := ("_law_told", f__law_told) :: t_29
def ib__law_hanging_1 : Ss :=
  (.cons (.asgs 6 (.bin .fdiv (.call f__law_cell (.cons (.v 0) (.cons (.bin .add (.v 1) (.v 5)) .nil))) (.c (.int 3))))
  (.cons (.app 4 (.ix (.lst (.cons (.tup (.cons (.bin .mod (.v 6) (.v 5)) (.cons (.v 5) .nil))) (.cons (.tup (.cons (.v 5) (.cons (.bin .mod (.v 6) (.v 5)) .nil))) .nil))) (.bin .mod (.bin .fdiv (.v 6) (.c (.int 7))) (.c (.int 2)))))
  .nil))
def ib__law_hanging_2 : Ss :=
  (.cons (.asgs 6 (.call f__law_cell (.cons (.v 0) (.cons (.bin .add (.bin .add (.v 1) (.c (.int 9))) (.v 7)) .nil))))
  (.cons (.app 4 (.tup (.cons (.bin .mod (.v 6) (.v 2)) (.cons (.bin .mod (.bin .fdiv (.v 6) (.c (.int 11))) (.v 2)) .nil))))
  .nil))
def ir__law_hanging : Ss :=
  (.cons (.asg (.nm 4) (.lst .nil))
  (.cons (.for_ (.nm 5) (.rng (.cons (.c (.int 1)) (.cons (.v 2) .nil))) ib__law_hanging_1)
  (.cons (.for_ (.nm 7) (.rng (.cons (.v 3) .nil)) ib__law_hanging_2)
  (.cons (.ret (.v 4))
  .nil))))
def f__law_hanging : Fn := evDef FUEL 4 8 ir__law_hanging
theorem cm__law_hanging : compDef ⟨["draws", "at", "count", "more", "net", "line", "cell", "k"], fun x => t_30.lookup x, fun x => cst.lookup x, fun x => cut0.lookup x, false, [], []⟩ (topS 33) = some ir__law_hanging := by kernel_rfl
theorem sc__law_hanging : FnScope ["draws", "at", "count", "more", "net", "line", "cell", "k"] ["draws", "at", "count", "more"] (defScope (topS 33)) := ⟨rfl, rfl, rfl, by decide +kernel, rfl, by decide +kernel, by decide +kernel⟩
def t_31 : List (Str × Fn) := ("_law_hanging", f__law_hanging) :: t_30
def ib_law_1 : Ss :=
  (.cons (.asgs 8 (.call f__law_cell (.cons (.v 1) (.cons (.bin .add (.c (.int 30)) (.v 7)) .nil))))
  (.cons (.app 6 (.ix (.lst (.cons (.call f__law_whole (.cons (.bin .add (.c (.int 1)) (.bin .mod (.v 8) (.c (.int 6)))) .nil)) (.cons (.call f__law_length (.cons (.bin .add (.c (.int 1)) (.bin .mod (.v 8) (.c (.int 6)))) (.cons (.c (.int 0)) (.cons (.bin .add (.c (.int 1)) (.bin .mod (.bin .fdiv (.v 8) (.c (.int 7))) (.c (.int 4)))) .nil)))) (.cons (.call f__law_above (.cons (.v 1) (.cons (.bin .add (.c (.int 30)) (.v 7)) (.cons (.v 2) .nil)))) .nil)))) (.bin .mod (.ix (.v 1) (.c (.int 4))) (.c (.int 3)))))
  .nil))
def ic_law_2 : E :=
  (.comp [12] (.nm 12) (.seq (.v 10)) .no (.call f__law_times (.cons (.v 2) (.cons (.tup (.cons (.c (.int 2)) (.cons (.c (.int 0)) (.cons (.c (.int 1)) .nil)))) (.cons (.v 12) .nil)))))
def ic_law_3 : E :=
  (.comp [13, 14] (.two (.nm 13) (.nm 14)) (.seq (.v 5)) .no (.tup (.cons (.v 14) (.cons (.v 13) .nil))))
def ic_law_4 : E :=
  (.comp [15] (.nm 15) (.seq (.v 6)) .no (.call f__law_times (.cons (.v 2) (.cons (.v 7) (.cons (.v 15) .nil)))))
def ir_law : Ss :=
  (.cons (.asgs 1 (.call f__law_draws (.cons (.v 0) (.cons (.c (.int 60)) .nil))))
  (.cons (.asgs 2 (.call f__law_root (.cons (.ix (.v 1) (.c (.int 0))) .nil)))
  (.cons (.par 3 4 (.bin .add (.c (.int 2)) (.bin .mod (.ix (.v 1) (.c (.int 1))) (.c (.int 5)))) (.bin .mod (.ix (.v 1) (.c (.int 2))) (.c (.int 5))))
  (.cons (.ite (.cmp .eq (.bin .mod (.ix (.v 1) (.c (.int 3))) (.c (.int 16))) (.c (.int 5))) (.cons (.asgs 3 (.bin .add (.c (.int 7)) (.bin .mod (.ix (.v 1) (.c (.int 1))) (.c (.int 2)))))
  .nil) .nil)
  (.cons (.asgs 5 (.call f__law_hanging (.cons (.v 1) (.cons (.c (.int 8)) (.cons (.v 3) (.cons (.v 4) .nil))))))
  (.cons (.asg (.nm 6) (.lst .nil))
  (.cons (.for_ (.nm 7) (.rng (.cons (.bi .len (.cons (.v 5) .nil)) .nil)) ib_law_1)
  (.cons (.asgs 9 (.call f__law_above (.cons (.v 1) (.cons (.c (.int 24)) (.cons (.v 2) .nil)))))
  (.cons (.asgs 10 (.call f__law_told (.cons (.v 2) (.cons (.v 3) (.cons (.v 5) (.cons (.v 6) (.cons (.v 9) .nil)))))))
  (.cons (.ite (.cmp .isn (.v 10) (.c .none)) (.cons (.ret (.c (.bool false)))
  .nil) .nil)
  (.cons (.asgs 11 (.call f__law_told (.cons (.v 2) (.cons (.v 3) (.cons (.v 5) (.cons (.v 6) (.cons (.call f__law_times (.cons (.v 2) (.cons (.tup (.cons (.c (.int 2)) (.cons (.c (.int 0)) (.cons (.c (.int 1)) .nil)))) (.cons (.v 9) .nil)))) .nil)))))))
  (.cons (.ite (.cmp .ne (.v 11) ic_law_2) (.cons (.ret (.c (.bool false)))
  .nil) .nil)
  (.cons (.asgs 7 (.call f__law_above (.cons (.v 1) (.cons (.c (.int 27)) (.cons (.v 2) .nil)))))
  (.cons (.ite (.cmp .ne (.call f__law_told (.cons (.v 2) (.cons (.v 3) (.cons ic_law_3 (.cons ic_law_4 (.cons (.v 9) .nil)))))) (.v 10)) (.cons (.ret (.c (.bool false)))
  .nil) .nil)
  (.cons (.asgs 16 (.tup (.cons (.c (.int 1)) (.cons (.c (.int 0)) (.cons (.c (.int 1)) .nil)))))
  (.cons (.ite (.or (.cmp .ne (.call f_heights_by (.cons (.c (.int 2)) (.cons (.c (.int 3)) (.cons (.lst (.cons (.tup (.cons (.c (.int 0)) (.cons (.c (.int 1)) .nil))) (.cons (.tup (.cons (.c (.int 1)) (.cons (.c (.int 2)) .nil))) (.cons (.tup (.cons (.c (.int 1)) (.cons (.c (.int 2)) .nil))) .nil)))) (.cons (.lst (.cons (.v 16) (.cons (.v 16) (.cons (.v 16) .nil)))) (.cons (.tup (.cons (.c (.int 3)) (.cons (.c (.int 0)) (.cons (.c (.int 1)) .nil)))) .nil)))))) (.lst (.cons (.tup (.cons (.c (.int 0)) (.cons (.c (.int 0)) (.cons (.c (.int 1)) .nil)))) (.cons (.tup (.cons (.c (.int 2)) (.cons (.c (.int 0)) (.cons (.c (.int 1)) .nil)))) (.cons (.tup (.cons (.c (.int 3)) (.cons (.c (.int 0)) (.cons (.c (.int 1)) .nil)))) .nil))))) (.cmp .ne (.call f_heights_by (.cons (.c (.int 3)) (.cons (.c (.int 2)) (.cons (.lst (.cons (.tup (.cons (.c (.int 0)) (.cons (.c (.int 1)) .nil))) .nil)) (.cons (.lst (.cons (.v 16) .nil)) (.cons (.tup (.cons (.c (.int 0)) (.cons (.c (.int 1)) (.cons (.c (.int 1)) .nil)))) .nil)))))) (.lst (.cons (.tup (.cons (.c (.int 0)) (.cons (.c (.int 0)) (.cons (.c (.int 1)) .nil)))) (.cons (.tup (.cons (.c (.int 0)) (.cons (.c (.int 1)) (.cons (.c (.int 1)) .nil)))) .nil))))) (.cons (.ret (.c (.bool false)))
  .nil) .nil)
  (.cons (.ret (.cmp .eq (.call f_heights_by (.cons (.c (.int 2)) (.cons (.c (.int 3)) (.cons (.lst (.cons (.tup (.cons (.c (.int 0)) (.cons (.c (.int 1)) .nil))) (.cons (.tup (.cons (.c (.int 2)) (.cons (.c (.int 1)) .nil))) (.cons (.tup (.cons (.c (.int 0)) (.cons (.c (.int 0)) .nil))) .nil)))) (.cons (.lst (.cons (.tup (.cons (.c (.int 0)) (.cons (.c (.int 1)) (.cons (.c (.int 1)) .nil)))) (.cons (.v 16) (.cons (.v 16) .nil)))) (.cons (.v 16) .nil)))))) (.lst (.cons (.tup (.cons (.c (.int 0)) (.cons (.c (.int 0)) (.cons (.c (.int 1)) .nil)))) (.cons (.tup (.cons (.neg (.c (.int 1))) (.cons (.c (.int 1)) (.cons (.c (.int 1)) .nil)))) (.cons (.v 16) .nil))))))
  .nil)))))))))))))))))
def f_law : Fn := evDef FUEL 1 17 ir_law
theorem cm_law : compDef ⟨["script", "draws", "root", "count", "more", "net", "shares", "k", "cell", "top", "told", "twice", "height", "low", "high", "share", "one"], fun x => t_31.lookup x, fun x => cst.lookup x, fun x => cut0.lookup x, false, [], []⟩ (topS 34) = some ir_law := by kernel_rfl
theorem sc_law : FnScope ["script", "draws", "root", "count", "more", "net", "shares", "k", "cell", "top", "told", "twice", "height", "low", "high", "share", "one"] ["script"] (defScope (topS 34)) := ⟨rfl, rfl, rfl, by decide +kernel, rfl, by decide +kernel, by decide +kernel⟩
end K81

set_option Elab.async false
set_option linter.all false
set_option maxRecDepth 100000
set_option maxHeartbeats 4000000
namespace K81
open PySem L2 PV Qu
variable {d : Nat}
/-! ### the law's reckoning with lengths -/
theorem whole_is (n : Int) : f__law_whole [.int n] = some (false, L (n : Q d)) := by
  unfold f__law_whole evDef ir__law_whole
  simp only [q_wipeR_1, q_wipeR_2, q_asg_1, q_asg_2, q_asg_3, q_asg_4, q_asg_5, q_asg_6, q_asg_7, q_asgR_1, q_ownedArg_1, q_ownedArgs_1, q_ownedArgs_2, q_itemsOf_1, q_itemsOf_2, q_evE_1, q_evE_2, q_evE_3, q_evE_4, q_evE_5, q_evE_6, q_evE_7, q_evE_8, q_evE_9, q_evE_10, q_evE_11, q_evE_12, q_evE_13, q_evE_14, q_evE_15, q_evE_16, q_evE_17, q_evE_18, q_evE_19, q_evE_20, q_evE_21, q_evE_22, q_evE_23, q_evE_24, q_evE_25, q_evEs_1, q_evEs_2, q_evP_1, q_evP_2, q_evC_1, q_evC_2, q_evI_1, q_evI_2, q_evRet_1, q_evS_1, q_evS_2, q_evS_3, q_evS_4, q_evS_5, q_evS_6, q_evS_7, q_evS_8, q_evS_9, q_evS_10, q_evS_11, q_evS_12, q_evS_13, q_evS_14, q_evS_15, q_evS_16, q_evS_17, q_evS_18, q_evS_19, q_evS_20, q_evS_21, q_evSs_1, q_evSs_2, q_oa_0, q_rt_0, q_oa_1, q_rt_1, q_oa_2, q_rt_2, q_oa_3, q_rt_3, q_oa_4, q_rt_4, q_oa_5, q_rt_5, q_oa_6, q_rt_6, q_oa_7, q_rt_7, q_oa_8, q_rt_8, q_oa_9, q_rt_9, q_oa_10, q_rt_10, q_oa_11, q_rt_11, q_oa_12, q_rt_12, q_oa_13, q_rt_13, q_oa_14, q_rt_14, q_oa_15, q_rt_15, q_oa_16, q_rt_16, q_oa_17, q_rt_17, q_oa_18, q_rt_18, q_oa_19, q_rt_19, q_oa_20, q_rt_20, q_oa_21, q_rt_21, q_oa_22, q_rt_22, q_oa_23, q_rt_23, q_ar_0, q_ar_1, q_ar_2, asI_i, q_less1, q_less2, q_less3, q_slot, q_rows, q_dict, q_asInt, q_listIt, q_rowR, q_ret, q_bind, q_bindn, q_map, q_mapn, q_evT, q_own, startR, List.getElem?_cons_succ, List.getElem?_cons_zero, List.set_cons_succ, List.set_cons_zero, List.map_cons, List.map_nil, List.replicate, List.length_cons, List.length_nil, List.append_eq, List.nil_append, List.cons_append, Bool.and_true, Bool.true_and, Bool.and_false, Bool.false_and, Bool.not_true, Bool.not_false, if_true, if_false, reduceCtorEq, Nat.reduceSub, Nat.reduceAdd, Nat.reduceLeDiff, Bool.false_eq_true, Bool.or_false, Bool.false_or, ite_true, ite_false, lenOk_0, lenOk_1, lenOk_2, lenOk_3, lenOk_4, lenOk_5, lenOk_6, lenOk_7, lenOk_8, i_add, i_sub, i_neg, i_asI, N_int, i_inti, i_intb, decide_true, decide_false]
  rw [L_int (d := d)]
theorem common_is {a b : Int} {k : Nat} (hb : b.natAbs < 2 ^ k) (hk : k ≤ 9000) : f__law_common [.int a, .int b] = some (false, .int (Int.gcd a b : Nat)) := by
  have e := gcd_loop (c := tst iw__law_common_1) (f := blk FUEL ib__law_common_1) (fun a b => by
    unfold tst iw__law_common_1
    simp only [q_wipeR_1, q_wipeR_2, q_asg_1, q_asg_2, q_asg_3, q_asg_4, q_asg_5, q_asg_6, q_asg_7, q_asgR_1, q_ownedArg_1, q_ownedArgs_1, q_ownedArgs_2, q_itemsOf_1, q_itemsOf_2, q_evE_1, q_evE_2, q_evE_3, q_evE_4, q_evE_5, q_evE_6, q_evE_7, q_evE_8, q_evE_9, q_evE_10, q_evE_11, q_evE_12, q_evE_13, q_evE_14, q_evE_15, q_evE_16, q_evE_17, q_evE_18, q_evE_19, q_evE_20, q_evE_21, q_evE_22, q_evE_23, q_evE_24, q_evE_25, q_evEs_1, q_evEs_2, q_evP_1, q_evP_2, q_evC_1, q_evC_2, q_evI_1, q_evI_2, q_evRet_1, q_evS_1, q_evS_2, q_evS_3, q_evS_4, q_evS_5, q_evS_6, q_evS_7, q_evS_8, q_evS_9, q_evS_10, q_evS_11, q_evS_12, q_evS_13, q_evS_14, q_evS_15, q_evS_16, q_evS_17, q_evS_18, q_evS_19, q_evS_20, q_evS_21, q_evSs_1, q_evSs_2, q_oa_0, q_rt_0, q_oa_1, q_rt_1, q_oa_2, q_rt_2, q_oa_3, q_rt_3, q_oa_4, q_rt_4, q_oa_5, q_rt_5, q_oa_6, q_rt_6, q_oa_7, q_rt_7, q_oa_8, q_rt_8, q_oa_9, q_rt_9, q_oa_10, q_rt_10, q_oa_11, q_rt_11, q_oa_12, q_rt_12, q_oa_13, q_rt_13, q_oa_14, q_rt_14, q_oa_15, q_rt_15, q_oa_16, q_rt_16, q_oa_17, q_rt_17, q_oa_18, q_rt_18, q_oa_19, q_rt_19, q_oa_20, q_rt_20, q_oa_21, q_rt_21, q_oa_22, q_rt_22, q_oa_23, q_rt_23, q_ar_0, q_ar_1, q_ar_2, asI_i, q_less1, q_less2, q_less3, q_slot, q_rows, q_dict, q_asInt, q_listIt, q_rowR, q_ret, q_bind, q_bindn, q_map, q_mapn, q_evT, q_own, startR, List.getElem?_cons_succ, List.getElem?_cons_zero, List.set_cons_succ, List.set_cons_zero, List.map_cons, List.map_nil, List.replicate, List.length_cons, List.length_nil, List.append_eq, List.nil_append, List.cons_append, Bool.and_true, Bool.true_and, Bool.and_false, Bool.false_and, Bool.not_true, Bool.not_false, if_true, if_false, reduceCtorEq, Nat.reduceSub, Nat.reduceAdd, Nat.reduceLeDiff, Bool.false_eq_true, Bool.or_false, Bool.false_or, ite_true, ite_false, lenOk_0, lenOk_1, lenOk_2, lenOk_3, lenOk_4, lenOk_5, lenOk_6, lenOk_7, lenOk_8, i_add, i_sub, i_neg, i_asI, N_int, i_inti, i_intb, decide_true, decide_false, i_ne]
    congr 1
    by_cases h : b = 0
    · subst h; rfl
    · rw [decide_eq_false (by omega), decide_eq_true (by omega)]; rfl) (fun a b h => by
    unfold blk ib__law_common_1
    simp only [q_wipeR_1, q_wipeR_2, q_asg_1, q_asg_2, q_asg_3, q_asg_4, q_asg_5, q_asg_6, q_asg_7, q_asgR_1, q_ownedArg_1, q_ownedArgs_1, q_ownedArgs_2, q_itemsOf_1, q_itemsOf_2, q_evE_1, q_evE_2, q_evE_3, q_evE_4, q_evE_5, q_evE_6, q_evE_7, q_evE_8, q_evE_9, q_evE_10, q_evE_11, q_evE_12, q_evE_13, q_evE_14, q_evE_15, q_evE_16, q_evE_17, q_evE_18, q_evE_19, q_evE_20, q_evE_21, q_evE_22, q_evE_23, q_evE_24, q_evE_25, q_evEs_1, q_evEs_2, q_evP_1, q_evP_2, q_evC_1, q_evC_2, q_evI_1, q_evI_2, q_evRet_1, q_evS_1, q_evS_2, q_evS_3, q_evS_4, q_evS_5, q_evS_6, q_evS_7, q_evS_8, q_evS_9, q_evS_10, q_evS_11, q_evS_12, q_evS_13, q_evS_14, q_evS_15, q_evS_16, q_evS_17, q_evS_18, q_evS_19, q_evS_20, q_evS_21, q_evSs_1, q_evSs_2, q_oa_0, q_rt_0, q_oa_1, q_rt_1, q_oa_2, q_rt_2, q_oa_3, q_rt_3, q_oa_4, q_rt_4, q_oa_5, q_rt_5, q_oa_6, q_rt_6, q_oa_7, q_rt_7, q_oa_8, q_rt_8, q_oa_9, q_rt_9, q_oa_10, q_rt_10, q_oa_11, q_rt_11, q_oa_12, q_rt_12, q_oa_13, q_rt_13, q_oa_14, q_rt_14, q_oa_15, q_rt_15, q_oa_16, q_rt_16, q_oa_17, q_rt_17, q_oa_18, q_rt_18, q_oa_19, q_rt_19, q_oa_20, q_rt_20, q_oa_21, q_rt_21, q_oa_22, q_rt_22, q_oa_23, q_rt_23, q_ar_0, q_ar_1, q_ar_2, asI_i, q_less1, q_less2, q_less3, q_slot, q_rows, q_dict, q_asInt, q_listIt, q_rowR, q_ret, q_bind, q_bindn, q_map, q_mapn, q_evT, q_own, startR, List.getElem?_cons_succ, List.getElem?_cons_zero, List.set_cons_succ, List.set_cons_zero, List.map_cons, List.map_nil, List.replicate, List.length_cons, List.length_nil, List.append_eq, List.nil_append, List.cons_append, Bool.and_true, Bool.true_and, Bool.and_false, Bool.false_and, Bool.not_true, Bool.not_false, if_true, if_false, reduceCtorEq, Nat.reduceSub, Nat.reduceAdd, Nat.reduceLeDiff, Bool.false_eq_true, Bool.or_false, Bool.false_or, ite_true, ite_false, lenOk_0, lenOk_1, lenOk_2, lenOk_3, lenOk_4, lenOk_5, lenOk_6, lenOk_7, lenOk_8, i_add, i_sub, i_neg, i_asI, N_int, i_inti, i_intb, decide_true, decide_false, i_mod (show (0 : Int) < b by omega)]
    rfl) k a.natAbs b.natAbs FUEL hb (fuel_gcd hk)
  unfold f__law_common evDef ir__law_common
  simp only [q_wipeR_1, q_wipeR_2, q_asg_1, q_asg_2, q_asg_3, q_asg_4, q_asg_5, q_asg_6, q_asg_7, q_asgR_1, q_ownedArg_1, q_ownedArgs_1, q_ownedArgs_2, q_itemsOf_1, q_itemsOf_2, q_evE_1, q_evE_2, q_evE_3, q_evE_4, q_evE_5, q_evE_6, q_evE_7, q_evE_8, q_evE_9, q_evE_10, q_evE_11, q_evE_12, q_evE_13, q_evE_14, q_evE_15, q_evE_16, q_evE_17, q_evE_18, q_evE_19, q_evE_20, q_evE_21, q_evE_22, q_evE_23, q_evE_24, q_evE_25, q_evEs_1, q_evEs_2, q_evP_1, q_evP_2, q_evC_1, q_evC_2, q_evI_1, q_evI_2, q_evRet_1, q_evS_1, q_evS_2, q_evS_3, q_evS_4, q_evS_5, q_evS_6, q_evS_7, q_evS_8, q_evS_9, q_evS_10, q_evS_11, q_evS_12, q_evS_13, q_evS_14, q_evS_15, q_evS_16, q_evS_17, q_evS_18, q_evS_19, q_evS_20, q_evS_21, q_evSs_1, q_evSs_2, q_oa_0, q_rt_0, q_oa_1, q_rt_1, q_oa_2, q_rt_2, q_oa_3, q_rt_3, q_oa_4, q_rt_4, q_oa_5, q_rt_5, q_oa_6, q_rt_6, q_oa_7, q_rt_7, q_oa_8, q_rt_8, q_oa_9, q_rt_9, q_oa_10, q_rt_10, q_oa_11, q_rt_11, q_oa_12, q_rt_12, q_oa_13, q_rt_13, q_oa_14, q_rt_14, q_oa_15, q_rt_15, q_oa_16, q_rt_16, q_oa_17, q_rt_17, q_oa_18, q_rt_18, q_oa_19, q_rt_19, q_oa_20, q_rt_20, q_oa_21, q_rt_21, q_oa_22, q_rt_22, q_oa_23, q_rt_23, q_ar_0, q_ar_1, q_ar_2, asI_i, q_less1, q_less2, q_less3, q_slot, q_rows, q_dict, q_asInt, q_listIt, q_rowR, q_ret, q_bind, q_bindn, q_map, q_mapn, q_evT, q_own, startR, List.getElem?_cons_succ, List.getElem?_cons_zero, List.set_cons_succ, List.set_cons_zero, List.map_cons, List.map_nil, List.replicate, List.length_cons, List.length_nil, List.append_eq, List.nil_append, List.cons_append, Bool.and_true, Bool.true_and, Bool.and_false, Bool.false_and, Bool.not_true, Bool.not_false, if_true, if_false, reduceCtorEq, Nat.reduceSub, Nat.reduceAdd, Nat.reduceLeDiff, Bool.false_eq_true, Bool.or_false, Bool.false_or, ite_true, ite_false, lenOk_0, lenOk_1, lenOk_2, lenOk_3, lenOk_4, lenOk_5, lenOk_6, lenOk_7, lenOk_8, i_add, i_sub, i_neg, i_asI, N_int, i_inti, i_intb, decide_true, decide_false, i_abs]
  rw [e]
  simp only [q_wipeR_1, q_wipeR_2, q_asg_1, q_asg_2, q_asg_3, q_asg_4, q_asg_5, q_asg_6, q_asg_7, q_asgR_1, q_ownedArg_1, q_ownedArgs_1, q_ownedArgs_2, q_itemsOf_1, q_itemsOf_2, q_evE_1, q_evE_2, q_evE_3, q_evE_4, q_evE_5, q_evE_6, q_evE_7, q_evE_8, q_evE_9, q_evE_10, q_evE_11, q_evE_12, q_evE_13, q_evE_14, q_evE_15, q_evE_16, q_evE_17, q_evE_18, q_evE_19, q_evE_20, q_evE_21, q_evE_22, q_evE_23, q_evE_24, q_evE_25, q_evEs_1, q_evEs_2, q_evP_1, q_evP_2, q_evC_1, q_evC_2, q_evI_1, q_evI_2, q_evRet_1, q_evS_1, q_evS_2, q_evS_3, q_evS_4, q_evS_5, q_evS_6, q_evS_7, q_evS_8, q_evS_9, q_evS_10, q_evS_11, q_evS_12, q_evS_13, q_evS_14, q_evS_15, q_evS_16, q_evS_17, q_evS_18, q_evS_19, q_evS_20, q_evS_21, q_evSs_1, q_evSs_2, q_oa_0, q_rt_0, q_oa_1, q_rt_1, q_oa_2, q_rt_2, q_oa_3, q_rt_3, q_oa_4, q_rt_4, q_oa_5, q_rt_5, q_oa_6, q_rt_6, q_oa_7, q_rt_7, q_oa_8, q_rt_8, q_oa_9, q_rt_9, q_oa_10, q_rt_10, q_oa_11, q_rt_11, q_oa_12, q_rt_12, q_oa_13, q_rt_13, q_oa_14, q_rt_14, q_oa_15, q_rt_15, q_oa_16, q_rt_16, q_oa_17, q_rt_17, q_oa_18, q_rt_18, q_oa_19, q_rt_19, q_oa_20, q_rt_20, q_oa_21, q_rt_21, q_oa_22, q_rt_22, q_oa_23, q_rt_23, q_ar_0, q_ar_1, q_ar_2, asI_i, q_less1, q_less2, q_less3, q_slot, q_rows, q_dict, q_asInt, q_listIt, q_rowR, q_ret, q_bind, q_bindn, q_map, q_mapn, q_evT, q_own, startR, List.getElem?_cons_succ, List.getElem?_cons_zero, List.set_cons_succ, List.set_cons_zero, List.map_cons, List.map_nil, List.replicate, List.length_cons, List.length_nil, List.append_eq, List.nil_append, List.cons_append, Bool.and_true, Bool.true_and, Bool.and_false, Bool.false_and, Bool.not_true, Bool.not_false, if_true, if_false, reduceCtorEq, Nat.reduceSub, Nat.reduceAdd, Nat.reduceLeDiff, Bool.false_eq_true, Bool.or_false, Bool.false_or, ite_true, ite_false, lenOk_0, lenOk_1, lenOk_2, lenOk_3, lenOk_4, lenOk_5, lenOk_6, lenOk_7, lenOk_8, i_add, i_sub, i_neg, i_asI, N_int, i_inti, i_intb, decide_true, decide_false]
  rfl
theorem length_is {p q s : Int} {k : Nat} (h0 : s ≠ 0) (hp : p.natAbs < 2 ^ k) (hq : q.natAbs < 2 ^ k) (hs : s.natAbs < 2 ^ k) (hk : k ≤ 8900) : f__law_length [.int p, .int q, .int s] = some (false, L (mkQ d p q s)) := by
  have c1 := common_is (a := p) (b := q) hq (by omega)
  have c2 := common_is (a := (Int.gcd p q : Nat)) (b := s) hs (by omega)
  have hz := dv_ne (p := p) (q := q) h0
  have hd : divOk (dv p q s) = true := divOk_b hz (Nat.lt_of_le_of_lt (dv_le h0) hs) hk
  have hg : (Int.gcd (Int.gcd p q : Nat) s) ≤ s.natAbs := by
    have := dv_le (p := p) (q := q) h0
    unfold dv g3 at this
    split at this <;> omega
  have m1 : ∀ k : Bool, mulOk 2 (if k = true then 1 else 0) = true := fun k => by cases k <;> decide
  have m2 : ∀ k : Bool, mulOk (Int.gcd (Int.gcd p q : Nat) s : Nat) (1 - 2 * (if k = true then 1 else 0)) = true := fun b => mulOk_b (k := k) (l := 2) (by rw [Int.natAbs_natCast]; exact Nat.lt_of_le_of_lt hg hs) (by cases b <;> decide) (by omega)
  have e : (Int.gcd (Int.gcd p q : Nat) s : Int) * (1 - 2 * (if (decide (s < 0)) = true then 1 else 0)) = dv p q s := by
    unfold dv g3
    by_cases h : s < 0
    · rw [if_pos h, decide_eq_true h]
      simp only [if_true]
      omega
    · rw [if_neg h, decide_eq_false h]
      simp only [Bool.false_eq_true, if_false]
      omega
  unfold f__law_length evDef ir__law_length
  simp only [q_wipeR_1, q_wipeR_2, q_asg_1, q_asg_2, q_asg_3, q_asg_4, q_asg_5, q_asg_6, q_asg_7, q_asgR_1, q_ownedArg_1, q_ownedArgs_1, q_ownedArgs_2, q_itemsOf_1, q_itemsOf_2, q_evE_1, q_evE_2, q_evE_3, q_evE_4, q_evE_5, q_evE_6, q_evE_7, q_evE_8, q_evE_9, q_evE_10, q_evE_11, q_evE_12, q_evE_13, q_evE_14, q_evE_15, q_evE_16, q_evE_17, q_evE_18, q_evE_19, q_evE_20, q_evE_21, q_evE_22, q_evE_23, q_evE_24, q_evE_25, q_evEs_1, q_evEs_2, q_evP_1, q_evP_2, q_evC_1, q_evC_2, q_evI_1, q_evI_2, q_evRet_1, q_evS_1, q_evS_2, q_evS_3, q_evS_4, q_evS_5, q_evS_6, q_evS_7, q_evS_8, q_evS_9, q_evS_10, q_evS_11, q_evS_12, q_evS_13, q_evS_14, q_evS_15, q_evS_16, q_evS_17, q_evS_18, q_evS_19, q_evS_20, q_evS_21, q_evSs_1, q_evSs_2, q_oa_0, q_rt_0, q_oa_1, q_rt_1, q_oa_2, q_rt_2, q_oa_3, q_rt_3, q_oa_4, q_rt_4, q_oa_5, q_rt_5, q_oa_6, q_rt_6, q_oa_7, q_rt_7, q_oa_8, q_rt_8, q_oa_9, q_rt_9, q_oa_10, q_rt_10, q_oa_11, q_rt_11, q_oa_12, q_rt_12, q_oa_13, q_rt_13, q_oa_14, q_rt_14, q_oa_15, q_rt_15, q_oa_16, q_rt_16, q_oa_17, q_rt_17, q_oa_18, q_rt_18, q_oa_19, q_rt_19, q_oa_20, q_rt_20, q_oa_21, q_rt_21, q_oa_22, q_rt_22, q_oa_23, q_rt_23, q_ar_0, q_ar_1, q_ar_2, asI_i, q_less1, q_less2, q_less3, q_slot, q_rows, q_dict, q_asInt, q_listIt, q_rowR, q_ret, q_bind, q_bindn, q_map, q_mapn, q_evT, q_own, startR, List.getElem?_cons_succ, List.getElem?_cons_zero, List.set_cons_succ, List.set_cons_zero, List.map_cons, List.map_nil, List.replicate, List.length_cons, List.length_nil, List.append_eq, List.nil_append, List.cons_append, Bool.and_true, Bool.true_and, Bool.and_false, Bool.false_and, Bool.not_true, Bool.not_false, if_true, if_false, reduceCtorEq, Nat.reduceSub, Nat.reduceAdd, Nat.reduceLeDiff, Bool.false_eq_true, Bool.or_false, Bool.false_or, ite_true, ite_false, lenOk_0, lenOk_1, lenOk_2, lenOk_3, lenOk_4, lenOk_5, lenOk_6, lenOk_7, lenOk_8, i_add, i_sub, i_neg, i_asI, N_int, i_inti, i_intb, decide_true, decide_false, c1, c2, i_lt, i_mul, m1, m2, e, i_fdiv, hd]
  rw [L_nz h0 rfl]
/-- two factors in bounds -/
theorem mul_of {a b : Int} {k l : Nat} (ha : a.natAbs < 2 ^ k) (hb : b.natAbs < 2 ^ l) (h : k + l ≤ 900000) : mulOk a b = true := mulOk_b ha hb h
theorem plus_sz {x y : Q d} {k l : Nat} (hx : Sz k x) (hy : Sz l y) : Sz (k + l + 1) (x + y) := by
  have hs : x.s * y.s ≠ 0 := by have := Int.mul_pos (s_pos x) (s_pos y); omega
  rw [← t_plus]
  exact Sz.of hs (nat_add_lt (nat_mul_lt hx.p hy.s) (by rw [Nat.add_comm k l]; exact nat_mul_lt hy.p hx.s)) (nat_add_lt (nat_mul_lt hx.q hy.s) (by rw [Nat.add_comm k l]; exact nat_mul_lt hy.q hx.s)) (nat_lt_mono (nat_mul_lt hx.s hy.s) (by omega))
theorem law_plus_is {x y : Q d} {k l : Nat} (hx : Sz k x) (hy : Sz l y) (h : k + l ≤ 8800) : f__law_plus [L x, L y] = some (false, L (x + y)) := by
  have hs : x.s * y.s ≠ 0 := by have := Int.mul_pos (s_pos x) (s_pos y); omega
  have e := length_is (d := d) (k := k + l + 1) hs (nat_add_lt (nat_mul_lt hx.p hy.s) (by rw [Nat.add_comm k l]; exact nat_mul_lt hy.p hx.s)) (nat_add_lt (nat_mul_lt hx.q hy.s) (by rw [Nat.add_comm k l]; exact nat_mul_lt hy.q hx.s)) (nat_lt_mono (nat_mul_lt hx.s hy.s) (by omega)) (by omega)
  rw [t_plus] at e
  unfold f__law_plus evDef ir__law_plus
  simp only [q_wipeR_1, q_wipeR_2, q_asg_1, q_asg_2, q_asg_3, q_asg_4, q_asg_5, q_asg_6, q_asg_7, q_asgR_1, q_ownedArg_1, q_ownedArgs_1, q_ownedArgs_2, q_itemsOf_1, q_itemsOf_2, q_evE_1, q_evE_2, q_evE_3, q_evE_4, q_evE_5, q_evE_6, q_evE_7, q_evE_8, q_evE_9, q_evE_10, q_evE_11, q_evE_12, q_evE_13, q_evE_14, q_evE_15, q_evE_16, q_evE_17, q_evE_18, q_evE_19, q_evE_20, q_evE_21, q_evE_22, q_evE_23, q_evE_24, q_evE_25, q_evEs_1, q_evEs_2, q_evP_1, q_evP_2, q_evC_1, q_evC_2, q_evI_1, q_evI_2, q_evRet_1, q_evS_1, q_evS_2, q_evS_3, q_evS_4, q_evS_5, q_evS_6, q_evS_7, q_evS_8, q_evS_9, q_evS_10, q_evS_11, q_evS_12, q_evS_13, q_evS_14, q_evS_15, q_evS_16, q_evS_17, q_evS_18, q_evS_19, q_evS_20, q_evS_21, q_evSs_1, q_evSs_2, q_oa_0, q_rt_0, q_oa_1, q_rt_1, q_oa_2, q_rt_2, q_oa_3, q_rt_3, q_oa_4, q_rt_4, q_oa_5, q_rt_5, q_oa_6, q_rt_6, q_oa_7, q_rt_7, q_oa_8, q_rt_8, q_oa_9, q_rt_9, q_oa_10, q_rt_10, q_oa_11, q_rt_11, q_oa_12, q_rt_12, q_oa_13, q_rt_13, q_oa_14, q_rt_14, q_oa_15, q_rt_15, q_oa_16, q_rt_16, q_oa_17, q_rt_17, q_oa_18, q_rt_18, q_oa_19, q_rt_19, q_oa_20, q_rt_20, q_oa_21, q_rt_21, q_oa_22, q_rt_22, q_oa_23, q_rt_23, q_ar_0, q_ar_1, q_ar_2, asI_i, q_less1, q_less2, q_less3, q_slot, q_rows, q_dict, q_asInt, q_listIt, q_rowR, q_ret, q_bind, q_bindn, q_map, q_mapn, q_evT, q_own, startR, List.getElem?_cons_succ, List.getElem?_cons_zero, List.set_cons_succ, List.set_cons_zero, List.map_cons, List.map_nil, List.replicate, List.length_cons, List.length_nil, List.append_eq, List.nil_append, List.cons_append, Bool.and_true, Bool.true_and, Bool.and_false, Bool.false_and, Bool.not_true, Bool.not_false, if_true, if_false, reduceCtorEq, Nat.reduceSub, Nat.reduceAdd, Nat.reduceLeDiff, Bool.false_eq_true, Bool.or_false, Bool.false_or, ite_true, ite_false, lenOk_0, lenOk_1, lenOk_2, lenOk_3, lenOk_4, lenOk_5, lenOk_6, lenOk_7, lenOk_8, i_add, i_sub, i_neg, i_asI, N_int, i_inti, i_intb, decide_true, decide_false, L_0, L_1, L_2, i_mul, mul_of hx.p hy.s (by omega), mul_of hy.p hx.s (by omega), mul_of hx.q hy.s (by omega), mul_of hy.q hx.s (by omega), mul_of hx.s hy.s (by omega), e]
theorem times_sz {x y : Q d} {k l : Nat} (hd : d < 64) (hx : Sz k x) (hy : Sz l y) : Sz (k + l + 7) (x * y) := by
  have hs : x.s * y.s ≠ 0 := by have := Int.mul_pos (s_pos x) (s_pos y); omega
  have h6 : ((d : Int)).natAbs < 2 ^ 6 := by omega
  rw [← t_times]
  refine Sz.of hs (nat_add_lt (k := k + l + 6) (nat_lt_mono (nat_mul_lt hx.p hy.p) (by omega)) (nat_lt_mono (nat_mul_lt (nat_mul_lt h6 hx.q) hy.q) (by omega))) (nat_lt_mono (nat_add_lt (k := k + l) (nat_mul_lt hx.p hy.q) (nat_mul_lt hx.q hy.p)) (by omega)) (nat_lt_mono (nat_mul_lt hx.s hy.s) (by omega))
theorem law_times_is {x y : Q d} {k l : Nat} (hd : d < 64) (hx : Sz k x) (hy : Sz l y) (h : k + l ≤ 8800) : f__law_times [.int (d : Int), L x, L y] = some (false, L (x * y)) := by
  have hs : x.s * y.s ≠ 0 := by have := Int.mul_pos (s_pos x) (s_pos y); omega
  have h6 : ((d : Int)).natAbs < 2 ^ 6 := by omega
  have e := length_is (d := d) (k := k + l + 7) hs (nat_add_lt (k := k + l + 6) (nat_lt_mono (nat_mul_lt hx.p hy.p) (by omega)) (nat_lt_mono (nat_mul_lt (nat_mul_lt h6 hx.q) hy.q) (by omega))) (nat_lt_mono (nat_add_lt (k := k + l) (nat_mul_lt hx.p hy.q) (nat_mul_lt hx.q hy.p)) (by omega)) (nat_lt_mono (nat_mul_lt hx.s hy.s) (by omega)) (by omega)
  rw [t_times] at e
  unfold f__law_times evDef ir__law_times
  simp only [q_wipeR_1, q_wipeR_2, q_asg_1, q_asg_2, q_asg_3, q_asg_4, q_asg_5, q_asg_6, q_asg_7, q_asgR_1, q_ownedArg_1, q_ownedArgs_1, q_ownedArgs_2, q_itemsOf_1, q_itemsOf_2, q_evE_1, q_evE_2, q_evE_3, q_evE_4, q_evE_5, q_evE_6, q_evE_7, q_evE_8, q_evE_9, q_evE_10, q_evE_11, q_evE_12, q_evE_13, q_evE_14, q_evE_15, q_evE_16, q_evE_17, q_evE_18, q_evE_19, q_evE_20, q_evE_21, q_evE_22, q_evE_23, q_evE_24, q_evE_25, q_evEs_1, q_evEs_2, q_evP_1, q_evP_2, q_evC_1, q_evC_2, q_evI_1, q_evI_2, q_evRet_1, q_evS_1, q_evS_2, q_evS_3, q_evS_4, q_evS_5, q_evS_6, q_evS_7, q_evS_8, q_evS_9, q_evS_10, q_evS_11, q_evS_12, q_evS_13, q_evS_14, q_evS_15, q_evS_16, q_evS_17, q_evS_18, q_evS_19, q_evS_20, q_evS_21, q_evSs_1, q_evSs_2, q_oa_0, q_rt_0, q_oa_1, q_rt_1, q_oa_2, q_rt_2, q_oa_3, q_rt_3, q_oa_4, q_rt_4, q_oa_5, q_rt_5, q_oa_6, q_rt_6, q_oa_7, q_rt_7, q_oa_8, q_rt_8, q_oa_9, q_rt_9, q_oa_10, q_rt_10, q_oa_11, q_rt_11, q_oa_12, q_rt_12, q_oa_13, q_rt_13, q_oa_14, q_rt_14, q_oa_15, q_rt_15, q_oa_16, q_rt_16, q_oa_17, q_rt_17, q_oa_18, q_rt_18, q_oa_19, q_rt_19, q_oa_20, q_rt_20, q_oa_21, q_rt_21, q_oa_22, q_rt_22, q_oa_23, q_rt_23, q_ar_0, q_ar_1, q_ar_2, asI_i, q_less1, q_less2, q_less3, q_slot, q_rows, q_dict, q_asInt, q_listIt, q_rowR, q_ret, q_bind, q_bindn, q_map, q_mapn, q_evT, q_own, startR, List.getElem?_cons_succ, List.getElem?_cons_zero, List.set_cons_succ, List.set_cons_zero, List.map_cons, List.map_nil, List.replicate, List.length_cons, List.length_nil, List.append_eq, List.nil_append, List.cons_append, Bool.and_true, Bool.true_and, Bool.and_false, Bool.false_and, Bool.not_true, Bool.not_false, if_true, if_false, reduceCtorEq, Nat.reduceSub, Nat.reduceAdd, Nat.reduceLeDiff, Bool.false_eq_true, Bool.or_false, Bool.false_or, ite_true, ite_false, lenOk_0, lenOk_1, lenOk_2, lenOk_3, lenOk_4, lenOk_5, lenOk_6, lenOk_7, lenOk_8, i_add, i_sub, i_neg, i_asI, N_int, i_inti, i_intb, decide_true, decide_false, L_0, L_1, L_2, i_mul, mul_of hx.p hy.p (by omega), mul_of h6 hx.q (by omega), mul_of (nat_mul_lt h6 hx.q) hy.q (by omega), mul_of hx.p hy.q (by omega), mul_of hx.q hy.p (by omega), mul_of hx.s hy.s (by omega), e]
theorem L_conj (x : Q d) : L x.conj = .tuple [.int x.p, .int (-x.q), .int x.s] := by
  obtain ⟨h1, h2, h3⟩ := conj_rep x
  rw [L_def, h1, h2, h3]
theorem L_negt (x : Q d) : PyData.tuple [.int (-x.p), .int (-x.q), .int x.s] = L (-x) := by
  obtain ⟨h1, h2, h3⟩ := neg_rep x
  rw [L_def, h1, h2, h3]
theorem conj_sz {x : Q d} {k : Nat} (h : Sz k x) : Sz k x.conj := by
  obtain ⟨h1, h2, h3⟩ := conj_rep x
  exact ⟨by rw [h1]; exact h.p, by rw [h2, Int.natAbs_neg]; exact h.q, by rw [h3]; exact h.s⟩
theorem neg_sz {x : Q d} {k : Nat} (h : Sz k x) : Sz k (-x) := by
  obtain ⟨h1, h2, h3⟩ := neg_rep x
  exact ⟨by rw [h1, Int.natAbs_neg]; exact h.p, by rw [h2, Int.natAbs_neg]; exact h.q, by rw [h3]; exact h.s⟩
end K81

set_option Elab.async false
set_option linter.all false
set_option maxRecDepth 100000
set_option maxHeartbeats 4000000
namespace K81
open PySem L2 PV Qu
variable {d : Nat}
theorem law_sign_is [NSq d] {x : Q d} {k : Nat} (hd : d < 64) (hx : Sz k x) (h : k ≤ 8000) : f__law_sign [.int (d : Int), L x] = some (false, .int (sgn x)) := by
  have h6 : ((d : Int)).natAbs < 2 ^ 6 := by omega
  have e := sgn_int x
  have b0 : ∀ k : Bool, mulOk 2 (if k = true then 1 else 0) = true := fun k => by cases k <;> decide
  have b1 : ∀ k l : Bool, mulOk (1 - 2 * if k = true then 1 else 0) (1 - 2 * if l = true then 1 else 0) = true := fun k l => by cases k <;> cases l <;> decide
  unfold f__law_sign evDef ir__law_sign
  simp only [q_wipeR_1, q_wipeR_2, q_asg_1, q_asg_2, q_asg_3, q_asg_4, q_asg_5, q_asg_6, q_asg_7, q_asgR_1, q_ownedArg_1, q_ownedArgs_1, q_ownedArgs_2, q_itemsOf_1, q_itemsOf_2, q_evE_1, q_evE_2, q_evE_3, q_evE_4, q_evE_5, q_evE_6, q_evE_7, q_evE_8, q_evE_9, q_evE_10, q_evE_11, q_evE_12, q_evE_13, q_evE_14, q_evE_15, q_evE_16, q_evE_17, q_evE_18, q_evE_19, q_evE_20, q_evE_21, q_evE_22, q_evE_23, q_evE_24, q_evE_25, q_evEs_1, q_evEs_2, q_evP_1, q_evP_2, q_evC_1, q_evC_2, q_evI_1, q_evI_2, q_evRet_1, q_evS_1, q_evS_2, q_evS_3, q_evS_4, q_evS_5, q_evS_6, q_evS_7, q_evS_8, q_evS_9, q_evS_10, q_evS_11, q_evS_12, q_evS_13, q_evS_14, q_evS_15, q_evS_16, q_evS_17, q_evS_18, q_evS_19, q_evS_20, q_evS_21, q_evSs_1, q_evSs_2, q_oa_0, q_rt_0, q_oa_1, q_rt_1, q_oa_2, q_rt_2, q_oa_3, q_rt_3, q_oa_4, q_rt_4, q_oa_5, q_rt_5, q_oa_6, q_rt_6, q_oa_7, q_rt_7, q_oa_8, q_rt_8, q_oa_9, q_rt_9, q_oa_10, q_rt_10, q_oa_11, q_rt_11, q_oa_12, q_rt_12, q_oa_13, q_rt_13, q_oa_14, q_rt_14, q_oa_15, q_rt_15, q_oa_16, q_rt_16, q_oa_17, q_rt_17, q_oa_18, q_rt_18, q_oa_19, q_rt_19, q_oa_20, q_rt_20, q_oa_21, q_rt_21, q_oa_22, q_rt_22, q_oa_23, q_rt_23, q_ar_0, q_ar_1, q_ar_2, asI_i, q_less1, q_less2, q_less3, q_slot, q_rows, q_dict, q_asInt, q_listIt, q_rowR, q_ret, q_bind, q_bindn, q_map, q_mapn, q_evT, q_own, startR, List.getElem?_cons_succ, List.getElem?_cons_zero, List.set_cons_succ, List.set_cons_zero, List.map_cons, List.map_nil, List.replicate, List.length_cons, List.length_nil, List.append_eq, List.nil_append, List.cons_append, Bool.and_true, Bool.true_and, Bool.and_false, Bool.false_and, Bool.not_true, Bool.not_false, if_true, if_false, reduceCtorEq, Nat.reduceSub, Nat.reduceAdd, Nat.reduceLeDiff, Bool.false_eq_true, Bool.or_false, Bool.false_or, ite_true, ite_false, lenOk_0, lenOk_1, lenOk_2, lenOk_3, lenOk_4, lenOk_5, lenOk_6, lenOk_7, lenOk_8, i_add, i_sub, i_neg, i_asI, N_int, i_inti, i_intb, decide_true, decide_false, L_asg, i_ge, i_gt, i_le, i_lt]
  by_cases c1 : 0 ≤ x.p ∧ 0 ≤ x.q
  · rw [if_pos c1] at e
    simp only [decide_eq_true c1.1, decide_eq_true c1.2, q_wipeR_1, q_wipeR_2, q_asg_1, q_asg_2, q_asg_3, q_asg_4, q_asg_5, q_asg_6, q_asg_7, q_asgR_1, q_ownedArg_1, q_ownedArgs_1, q_ownedArgs_2, q_itemsOf_1, q_itemsOf_2, q_evE_1, q_evE_2, q_evE_3, q_evE_4, q_evE_5, q_evE_6, q_evE_7, q_evE_8, q_evE_9, q_evE_10, q_evE_11, q_evE_12, q_evE_13, q_evE_14, q_evE_15, q_evE_16, q_evE_17, q_evE_18, q_evE_19, q_evE_20, q_evE_21, q_evE_22, q_evE_23, q_evE_24, q_evE_25, q_evEs_1, q_evEs_2, q_evP_1, q_evP_2, q_evC_1, q_evC_2, q_evI_1, q_evI_2, q_evRet_1, q_evS_1, q_evS_2, q_evS_3, q_evS_4, q_evS_5, q_evS_6, q_evS_7, q_evS_8, q_evS_9, q_evS_10, q_evS_11, q_evS_12, q_evS_13, q_evS_14, q_evS_15, q_evS_16, q_evS_17, q_evS_18, q_evS_19, q_evS_20, q_evS_21, q_evSs_1, q_evSs_2, q_oa_0, q_rt_0, q_oa_1, q_rt_1, q_oa_2, q_rt_2, q_oa_3, q_rt_3, q_oa_4, q_rt_4, q_oa_5, q_rt_5, q_oa_6, q_rt_6, q_oa_7, q_rt_7, q_oa_8, q_rt_8, q_oa_9, q_rt_9, q_oa_10, q_rt_10, q_oa_11, q_rt_11, q_oa_12, q_rt_12, q_oa_13, q_rt_13, q_oa_14, q_rt_14, q_oa_15, q_rt_15, q_oa_16, q_rt_16, q_oa_17, q_rt_17, q_oa_18, q_rt_18, q_oa_19, q_rt_19, q_oa_20, q_rt_20, q_oa_21, q_rt_21, q_oa_22, q_rt_22, q_oa_23, q_rt_23, q_ar_0, q_ar_1, q_ar_2, asI_i, q_less1, q_less2, q_less3, q_slot, q_rows, q_dict, q_asInt, q_listIt, q_rowR, q_ret, q_bind, q_bindn, q_map, q_mapn, q_evT, q_own, startR, List.getElem?_cons_succ, List.getElem?_cons_zero, List.set_cons_succ, List.set_cons_zero, List.map_cons, List.map_nil, List.replicate, List.length_cons, List.length_nil, List.append_eq, List.nil_append, List.cons_append, Bool.and_true, Bool.true_and, Bool.and_false, Bool.false_and, Bool.not_true, Bool.not_false, if_true, if_false, reduceCtorEq, Nat.reduceSub, Nat.reduceAdd, Nat.reduceLeDiff, Bool.false_eq_true, Bool.or_false, Bool.false_or, ite_true, ite_false, lenOk_0, lenOk_1, lenOk_2, lenOk_3, lenOk_4, lenOk_5, lenOk_6, lenOk_7, lenOk_8, i_add, i_sub, i_neg, i_asI, N_int, i_inti, i_intb, decide_true, decide_false, i_gt]
    rw [e]
    by_cases c : 0 < x.p + x.q
    · simp only [decide_eq_true c, if_pos c, if_true]
    · simp only [decide_eq_false c, if_neg c, Bool.false_eq_true, if_false]
  · rw [if_neg c1] at e
    have hb : (decide (0 ≤ x.p) && decide (0 ≤ x.q)) = false := by
      rw [Bool.and_eq_false_iff, decide_eq_false_iff_not, decide_eq_false_iff_not]
      omega
    by_cases c2 : x.p ≤ 0 ∧ x.q ≤ 0
    · rw [if_pos c2] at e
      rw [e]
      by_cases z : 0 ≤ x.p
      · have z2 : ¬ 0 ≤ x.q := fun y => c1 ⟨z, y⟩
        simp only [decide_eq_true z, decide_eq_false z2, decide_eq_true c2.1, decide_eq_true c2.2, q_wipeR_1, q_wipeR_2, q_asg_1, q_asg_2, q_asg_3, q_asg_4, q_asg_5, q_asg_6, q_asg_7, q_asgR_1, q_ownedArg_1, q_ownedArgs_1, q_ownedArgs_2, q_itemsOf_1, q_itemsOf_2, q_evE_1, q_evE_2, q_evE_3, q_evE_4, q_evE_5, q_evE_6, q_evE_7, q_evE_8, q_evE_9, q_evE_10, q_evE_11, q_evE_12, q_evE_13, q_evE_14, q_evE_15, q_evE_16, q_evE_17, q_evE_18, q_evE_19, q_evE_20, q_evE_21, q_evE_22, q_evE_23, q_evE_24, q_evE_25, q_evEs_1, q_evEs_2, q_evP_1, q_evP_2, q_evC_1, q_evC_2, q_evI_1, q_evI_2, q_evRet_1, q_evS_1, q_evS_2, q_evS_3, q_evS_4, q_evS_5, q_evS_6, q_evS_7, q_evS_8, q_evS_9, q_evS_10, q_evS_11, q_evS_12, q_evS_13, q_evS_14, q_evS_15, q_evS_16, q_evS_17, q_evS_18, q_evS_19, q_evS_20, q_evS_21, q_evSs_1, q_evSs_2, q_oa_0, q_rt_0, q_oa_1, q_rt_1, q_oa_2, q_rt_2, q_oa_3, q_rt_3, q_oa_4, q_rt_4, q_oa_5, q_rt_5, q_oa_6, q_rt_6, q_oa_7, q_rt_7, q_oa_8, q_rt_8, q_oa_9, q_rt_9, q_oa_10, q_rt_10, q_oa_11, q_rt_11, q_oa_12, q_rt_12, q_oa_13, q_rt_13, q_oa_14, q_rt_14, q_oa_15, q_rt_15, q_oa_16, q_rt_16, q_oa_17, q_rt_17, q_oa_18, q_rt_18, q_oa_19, q_rt_19, q_oa_20, q_rt_20, q_oa_21, q_rt_21, q_oa_22, q_rt_22, q_oa_23, q_rt_23, q_ar_0, q_ar_1, q_ar_2, asI_i, q_less1, q_less2, q_less3, q_slot, q_rows, q_dict, q_asInt, q_listIt, q_rowR, q_ret, q_bind, q_bindn, q_map, q_mapn, q_evT, q_own, startR, List.getElem?_cons_succ, List.getElem?_cons_zero, List.set_cons_succ, List.set_cons_zero, List.map_cons, List.map_nil, List.replicate, List.length_cons, List.length_nil, List.append_eq, List.nil_append, List.cons_append, Bool.and_true, Bool.true_and, Bool.and_false, Bool.false_and, Bool.not_true, Bool.not_false, if_true, if_false, reduceCtorEq, Nat.reduceSub, Nat.reduceAdd, Nat.reduceLeDiff, Bool.false_eq_true, Bool.or_false, Bool.false_or, ite_true, ite_false, lenOk_0, lenOk_1, lenOk_2, lenOk_3, lenOk_4, lenOk_5, lenOk_6, lenOk_7, lenOk_8, i_add, i_sub, i_neg, i_asI, N_int, i_inti, i_intb, decide_true, decide_false, i_ge, i_le]
      · simp only [decide_eq_false z, decide_eq_true c2.1, decide_eq_true c2.2, q_wipeR_1, q_wipeR_2, q_asg_1, q_asg_2, q_asg_3, q_asg_4, q_asg_5, q_asg_6, q_asg_7, q_asgR_1, q_ownedArg_1, q_ownedArgs_1, q_ownedArgs_2, q_itemsOf_1, q_itemsOf_2, q_evE_1, q_evE_2, q_evE_3, q_evE_4, q_evE_5, q_evE_6, q_evE_7, q_evE_8, q_evE_9, q_evE_10, q_evE_11, q_evE_12, q_evE_13, q_evE_14, q_evE_15, q_evE_16, q_evE_17, q_evE_18, q_evE_19, q_evE_20, q_evE_21, q_evE_22, q_evE_23, q_evE_24, q_evE_25, q_evEs_1, q_evEs_2, q_evP_1, q_evP_2, q_evC_1, q_evC_2, q_evI_1, q_evI_2, q_evRet_1, q_evS_1, q_evS_2, q_evS_3, q_evS_4, q_evS_5, q_evS_6, q_evS_7, q_evS_8, q_evS_9, q_evS_10, q_evS_11, q_evS_12, q_evS_13, q_evS_14, q_evS_15, q_evS_16, q_evS_17, q_evS_18, q_evS_19, q_evS_20, q_evS_21, q_evSs_1, q_evSs_2, q_oa_0, q_rt_0, q_oa_1, q_rt_1, q_oa_2, q_rt_2, q_oa_3, q_rt_3, q_oa_4, q_rt_4, q_oa_5, q_rt_5, q_oa_6, q_rt_6, q_oa_7, q_rt_7, q_oa_8, q_rt_8, q_oa_9, q_rt_9, q_oa_10, q_rt_10, q_oa_11, q_rt_11, q_oa_12, q_rt_12, q_oa_13, q_rt_13, q_oa_14, q_rt_14, q_oa_15, q_rt_15, q_oa_16, q_rt_16, q_oa_17, q_rt_17, q_oa_18, q_rt_18, q_oa_19, q_rt_19, q_oa_20, q_rt_20, q_oa_21, q_rt_21, q_oa_22, q_rt_22, q_oa_23, q_rt_23, q_ar_0, q_ar_1, q_ar_2, asI_i, q_less1, q_less2, q_less3, q_slot, q_rows, q_dict, q_asInt, q_listIt, q_rowR, q_ret, q_bind, q_bindn, q_map, q_mapn, q_evT, q_own, startR, List.getElem?_cons_succ, List.getElem?_cons_zero, List.set_cons_succ, List.set_cons_zero, List.map_cons, List.map_nil, List.replicate, List.length_cons, List.length_nil, List.append_eq, List.nil_append, List.cons_append, Bool.and_true, Bool.true_and, Bool.and_false, Bool.false_and, Bool.not_true, Bool.not_false, if_true, if_false, reduceCtorEq, Nat.reduceSub, Nat.reduceAdd, Nat.reduceLeDiff, Bool.false_eq_true, Bool.or_false, Bool.false_or, ite_true, ite_false, lenOk_0, lenOk_1, lenOk_2, lenOk_3, lenOk_4, lenOk_5, lenOk_6, lenOk_7, lenOk_8, i_add, i_sub, i_neg, i_asI, N_int, i_inti, i_intb, decide_true, decide_false, i_ge, i_le]
    · rw [if_neg c2] at e
      rw [e]
      have fin : ∀ (k l : Bool), ((1 : Int) - 2 * (if k = true then 1 else 0)) * (1 - 2 * (if l = true then 1 else 0)) = (if k = true then -1 else 1) * (if l = true then -1 else 1) := fun k l => by cases k <;> cases l <;> rfl
      have f2 := fin (decide (x.p < 0)) (decide (x.p * x.p - (d : Int) * x.q * x.q < 0))
      simp only [decide_eq_true_eq] at f2
      have mpp := mul_of hx.p hx.p (by omega)
      have mq := mul_of h6 hx.q (by omega)
      have mqq := mul_of (nat_mul_lt h6 hx.q) hx.q (by omega)
      by_cases z : 0 ≤ x.p
      · have z2 : ¬ 0 ≤ x.q := fun y => c1 ⟨z, y⟩
        have z3 : ¬ x.p ≤ 0 := fun y => c2 ⟨y, by omega⟩
        simp only [decide_eq_true z, decide_eq_false z2, decide_eq_false z3, q_wipeR_1, q_wipeR_2, q_asg_1, q_asg_2, q_asg_3, q_asg_4, q_asg_5, q_asg_6, q_asg_7, q_asgR_1, q_ownedArg_1, q_ownedArgs_1, q_ownedArgs_2, q_itemsOf_1, q_itemsOf_2, q_evE_1, q_evE_2, q_evE_3, q_evE_4, q_evE_5, q_evE_6, q_evE_7, q_evE_8, q_evE_9, q_evE_10, q_evE_11, q_evE_12, q_evE_13, q_evE_14, q_evE_15, q_evE_16, q_evE_17, q_evE_18, q_evE_19, q_evE_20, q_evE_21, q_evE_22, q_evE_23, q_evE_24, q_evE_25, q_evEs_1, q_evEs_2, q_evP_1, q_evP_2, q_evC_1, q_evC_2, q_evI_1, q_evI_2, q_evRet_1, q_evS_1, q_evS_2, q_evS_3, q_evS_4, q_evS_5, q_evS_6, q_evS_7, q_evS_8, q_evS_9, q_evS_10, q_evS_11, q_evS_12, q_evS_13, q_evS_14, q_evS_15, q_evS_16, q_evS_17, q_evS_18, q_evS_19, q_evS_20, q_evS_21, q_evSs_1, q_evSs_2, q_oa_0, q_rt_0, q_oa_1, q_rt_1, q_oa_2, q_rt_2, q_oa_3, q_rt_3, q_oa_4, q_rt_4, q_oa_5, q_rt_5, q_oa_6, q_rt_6, q_oa_7, q_rt_7, q_oa_8, q_rt_8, q_oa_9, q_rt_9, q_oa_10, q_rt_10, q_oa_11, q_rt_11, q_oa_12, q_rt_12, q_oa_13, q_rt_13, q_oa_14, q_rt_14, q_oa_15, q_rt_15, q_oa_16, q_rt_16, q_oa_17, q_rt_17, q_oa_18, q_rt_18, q_oa_19, q_rt_19, q_oa_20, q_rt_20, q_oa_21, q_rt_21, q_oa_22, q_rt_22, q_oa_23, q_rt_23, q_ar_0, q_ar_1, q_ar_2, asI_i, q_less1, q_less2, q_less3, q_slot, q_rows, q_dict, q_asInt, q_listIt, q_rowR, q_ret, q_bind, q_bindn, q_map, q_mapn, q_evT, q_own, startR, List.getElem?_cons_succ, List.getElem?_cons_zero, List.set_cons_succ, List.set_cons_zero, List.map_cons, List.map_nil, List.replicate, List.length_cons, List.length_nil, List.append_eq, List.nil_append, List.cons_append, Bool.and_true, Bool.true_and, Bool.and_false, Bool.false_and, Bool.not_true, Bool.not_false, if_true, if_false, reduceCtorEq, Nat.reduceSub, Nat.reduceAdd, Nat.reduceLeDiff, Bool.false_eq_true, Bool.or_false, Bool.false_or, ite_true, ite_false, lenOk_0, lenOk_1, lenOk_2, lenOk_3, lenOk_4, lenOk_5, lenOk_6, lenOk_7, lenOk_8, i_add, i_sub, i_neg, i_asI, N_int, i_inti, i_intb, decide_true, decide_false, i_ge, i_le, i_lt, i_mul, mpp, mq, mqq, b0, b1]
        rw [fin]
        simp only [decide_eq_true_eq]
      · have z3 : x.p ≤ 0 := by omega
        have z4 : ¬ x.q ≤ 0 := fun y => c2 ⟨z3, y⟩
        simp only [decide_eq_false z, decide_eq_true z3, decide_eq_false z4, q_wipeR_1, q_wipeR_2, q_asg_1, q_asg_2, q_asg_3, q_asg_4, q_asg_5, q_asg_6, q_asg_7, q_asgR_1, q_ownedArg_1, q_ownedArgs_1, q_ownedArgs_2, q_itemsOf_1, q_itemsOf_2, q_evE_1, q_evE_2, q_evE_3, q_evE_4, q_evE_5, q_evE_6, q_evE_7, q_evE_8, q_evE_9, q_evE_10, q_evE_11, q_evE_12, q_evE_13, q_evE_14, q_evE_15, q_evE_16, q_evE_17, q_evE_18, q_evE_19, q_evE_20, q_evE_21, q_evE_22, q_evE_23, q_evE_24, q_evE_25, q_evEs_1, q_evEs_2, q_evP_1, q_evP_2, q_evC_1, q_evC_2, q_evI_1, q_evI_2, q_evRet_1, q_evS_1, q_evS_2, q_evS_3, q_evS_4, q_evS_5, q_evS_6, q_evS_7, q_evS_8, q_evS_9, q_evS_10, q_evS_11, q_evS_12, q_evS_13, q_evS_14, q_evS_15, q_evS_16, q_evS_17, q_evS_18, q_evS_19, q_evS_20, q_evS_21, q_evSs_1, q_evSs_2, q_oa_0, q_rt_0, q_oa_1, q_rt_1, q_oa_2, q_rt_2, q_oa_3, q_rt_3, q_oa_4, q_rt_4, q_oa_5, q_rt_5, q_oa_6, q_rt_6, q_oa_7, q_rt_7, q_oa_8, q_rt_8, q_oa_9, q_rt_9, q_oa_10, q_rt_10, q_oa_11, q_rt_11, q_oa_12, q_rt_12, q_oa_13, q_rt_13, q_oa_14, q_rt_14, q_oa_15, q_rt_15, q_oa_16, q_rt_16, q_oa_17, q_rt_17, q_oa_18, q_rt_18, q_oa_19, q_rt_19, q_oa_20, q_rt_20, q_oa_21, q_rt_21, q_oa_22, q_rt_22, q_oa_23, q_rt_23, q_ar_0, q_ar_1, q_ar_2, asI_i, q_less1, q_less2, q_less3, q_slot, q_rows, q_dict, q_asInt, q_listIt, q_rowR, q_ret, q_bind, q_bindn, q_map, q_mapn, q_evT, q_own, startR, List.getElem?_cons_succ, List.getElem?_cons_zero, List.set_cons_succ, List.set_cons_zero, List.map_cons, List.map_nil, List.replicate, List.length_cons, List.length_nil, List.append_eq, List.nil_append, List.cons_append, Bool.and_true, Bool.true_and, Bool.and_false, Bool.false_and, Bool.not_true, Bool.not_false, if_true, if_false, reduceCtorEq, Nat.reduceSub, Nat.reduceAdd, Nat.reduceLeDiff, Bool.false_eq_true, Bool.or_false, Bool.false_or, ite_true, ite_false, lenOk_0, lenOk_1, lenOk_2, lenOk_3, lenOk_4, lenOk_5, lenOk_6, lenOk_7, lenOk_8, i_add, i_sub, i_neg, i_asI, N_int, i_inti, i_intb, decide_true, decide_false, i_ge, i_le, i_lt, i_mul, mpp, mq, mqq, b0, b1]
        rw [fin]
        simp only [decide_eq_true_eq]
theorem is_number_int (i : Int) : f__law_is_number [.int i] = some (false, .bool true) := by
  have h1 : evBI .isInt [.int i] = some (false, .bool true) := rfl
  have h2 : evBI .isBool [.int i] = some (false, .bool false) := rfl
  unfold f__law_is_number evDef ir__law_is_number
  simp only [q_wipeR_1, q_wipeR_2, q_asg_1, q_asg_2, q_asg_3, q_asg_4, q_asg_5, q_asg_6, q_asg_7, q_asgR_1, q_ownedArg_1, q_ownedArgs_1, q_ownedArgs_2, q_itemsOf_1, q_itemsOf_2, q_evE_1, q_evE_2, q_evE_3, q_evE_4, q_evE_5, q_evE_6, q_evE_7, q_evE_8, q_evE_9, q_evE_10, q_evE_11, q_evE_12, q_evE_13, q_evE_14, q_evE_15, q_evE_16, q_evE_17, q_evE_18, q_evE_19, q_evE_20, q_evE_21, q_evE_22, q_evE_23, q_evE_24, q_evE_25, q_evEs_1, q_evEs_2, q_evP_1, q_evP_2, q_evC_1, q_evC_2, q_evI_1, q_evI_2, q_evRet_1, q_evS_1, q_evS_2, q_evS_3, q_evS_4, q_evS_5, q_evS_6, q_evS_7, q_evS_8, q_evS_9, q_evS_10, q_evS_11, q_evS_12, q_evS_13, q_evS_14, q_evS_15, q_evS_16, q_evS_17, q_evS_18, q_evS_19, q_evS_20, q_evS_21, q_evSs_1, q_evSs_2, q_oa_0, q_rt_0, q_oa_1, q_rt_1, q_oa_2, q_rt_2, q_oa_3, q_rt_3, q_oa_4, q_rt_4, q_oa_5, q_rt_5, q_oa_6, q_rt_6, q_oa_7, q_rt_7, q_oa_8, q_rt_8, q_oa_9, q_rt_9, q_oa_10, q_rt_10, q_oa_11, q_rt_11, q_oa_12, q_rt_12, q_oa_13, q_rt_13, q_oa_14, q_rt_14, q_oa_15, q_rt_15, q_oa_16, q_rt_16, q_oa_17, q_rt_17, q_oa_18, q_rt_18, q_oa_19, q_rt_19, q_oa_20, q_rt_20, q_oa_21, q_rt_21, q_oa_22, q_rt_22, q_oa_23, q_rt_23, q_ar_0, q_ar_1, q_ar_2, asI_i, q_less1, q_less2, q_less3, q_slot, q_rows, q_dict, q_asInt, q_listIt, q_rowR, q_ret, q_bind, q_bindn, q_map, q_mapn, q_evT, q_own, startR, List.getElem?_cons_succ, List.getElem?_cons_zero, List.set_cons_succ, List.set_cons_zero, List.map_cons, List.map_nil, List.replicate, List.length_cons, List.length_nil, List.append_eq, List.nil_append, List.cons_append, Bool.and_true, Bool.true_and, Bool.and_false, Bool.false_and, Bool.not_true, Bool.not_false, if_true, if_false, reduceCtorEq, Nat.reduceSub, Nat.reduceAdd, Nat.reduceLeDiff, Bool.false_eq_true, Bool.or_false, Bool.false_or, ite_true, ite_false, lenOk_0, lenOk_1, lenOk_2, lenOk_3, lenOk_4, lenOk_5, lenOk_6, lenOk_7, lenOk_8, i_add, i_sub, i_neg, i_asI, N_int, i_inti, i_intb, decide_true, decide_false, h1, h2]
theorem isn_loop (s0 : Option R) : ∀ (l : List Int) (j : Option R), ∃ j', forGo (.nm 1) (blk FUEL ib__law_is_numbers_1) (l.map .int) [s0, j] = some (.nx [s0, j'])
  | [], j => ⟨j, rfl⟩
  | i :: l, j => by
    obtain ⟨j', ih⟩ := isn_loop s0 l (sI i)
    have e : blk FUEL ib__law_is_numbers_1 [s0, sI i] = some (.nx [s0, sI i]) := by
      unfold blk ib__law_is_numbers_1
      simp only [q_wipeR_1, q_wipeR_2, q_asg_1, q_asg_2, q_asg_3, q_asg_4, q_asg_5, q_asg_6, q_asg_7, q_asgR_1, q_ownedArg_1, q_ownedArgs_1, q_ownedArgs_2, q_itemsOf_1, q_itemsOf_2, q_evE_1, q_evE_2, q_evE_3, q_evE_4, q_evE_5, q_evE_6, q_evE_7, q_evE_8, q_evE_9, q_evE_10, q_evE_11, q_evE_12, q_evE_13, q_evE_14, q_evE_15, q_evE_16, q_evE_17, q_evE_18, q_evE_19, q_evE_20, q_evE_21, q_evE_22, q_evE_23, q_evE_24, q_evE_25, q_evEs_1, q_evEs_2, q_evP_1, q_evP_2, q_evC_1, q_evC_2, q_evI_1, q_evI_2, q_evRet_1, q_evS_1, q_evS_2, q_evS_3, q_evS_4, q_evS_5, q_evS_6, q_evS_7, q_evS_8, q_evS_9, q_evS_10, q_evS_11, q_evS_12, q_evS_13, q_evS_14, q_evS_15, q_evS_16, q_evS_17, q_evS_18, q_evS_19, q_evS_20, q_evS_21, q_evSs_1, q_evSs_2, q_oa_0, q_rt_0, q_oa_1, q_rt_1, q_oa_2, q_rt_2, q_oa_3, q_rt_3, q_oa_4, q_rt_4, q_oa_5, q_rt_5, q_oa_6, q_rt_6, q_oa_7, q_rt_7, q_oa_8, q_rt_8, q_oa_9, q_rt_9, q_oa_10, q_rt_10, q_oa_11, q_rt_11, q_oa_12, q_rt_12, q_oa_13, q_rt_13, q_oa_14, q_rt_14, q_oa_15, q_rt_15, q_oa_16, q_rt_16, q_oa_17, q_rt_17, q_oa_18, q_rt_18, q_oa_19, q_rt_19, q_oa_20, q_rt_20, q_oa_21, q_rt_21, q_oa_22, q_rt_22, q_oa_23, q_rt_23, q_ar_0, q_ar_1, q_ar_2, asI_i, q_less1, q_less2, q_less3, q_slot, q_rows, q_dict, q_asInt, q_listIt, q_rowR, q_ret, q_bind, q_bindn, q_map, q_mapn, q_evT, q_own, startR, List.getElem?_cons_succ, List.getElem?_cons_zero, List.set_cons_succ, List.set_cons_zero, List.map_cons, List.map_nil, List.replicate, List.length_cons, List.length_nil, List.append_eq, List.nil_append, List.cons_append, Bool.and_true, Bool.true_and, Bool.and_false, Bool.false_and, Bool.not_true, Bool.not_false, if_true, if_false, reduceCtorEq, Nat.reduceSub, Nat.reduceAdd, Nat.reduceLeDiff, Bool.false_eq_true, Bool.or_false, Bool.false_or, ite_true, ite_false, lenOk_0, lenOk_1, lenOk_2, lenOk_3, lenOk_4, lenOk_5, lenOk_6, lenOk_7, lenOk_8, i_add, i_sub, i_neg, i_asI, N_int, i_inti, i_intb, decide_true, decide_false, is_number_int]
    exact ⟨j', by rw [List.map_cons]; exact (fr_nx (ρ1 := [s0, sI i]) rfl e).trans ih⟩
theorem is_numbers_ints (l : List Int) : f__law_is_numbers [.list (l.map .int)] = some (false, .bool true) := by
  obtain ⟨j', e⟩ := isn_loop (some (false, .list (l.map .int))) l none
  have h1 : evBI .isList [.list (l.map PyData.int)] = some (false, .bool true) := rfl
  have h2 : itemsOf (.list (l.map PyData.int)) = some (l.map .int) := rfl
  unfold f__law_is_numbers evDef ir__law_is_numbers
  simp only [q_wipeR_1, q_wipeR_2, q_asg_1, q_asg_2, q_asg_3, q_asg_4, q_asg_5, q_asg_6, q_asg_7, q_asgR_1, q_ownedArg_1, q_ownedArgs_1, q_ownedArgs_2, q_itemsOf_1, q_itemsOf_2, q_evE_1, q_evE_2, q_evE_3, q_evE_4, q_evE_5, q_evE_6, q_evE_7, q_evE_8, q_evE_9, q_evE_10, q_evE_11, q_evE_12, q_evE_13, q_evE_14, q_evE_15, q_evE_16, q_evE_17, q_evE_18, q_evE_19, q_evE_20, q_evE_21, q_evE_22, q_evE_23, q_evE_24, q_evE_25, q_evEs_1, q_evEs_2, q_evP_1, q_evP_2, q_evC_1, q_evC_2, q_evI_1, q_evI_2, q_evRet_1, q_evS_1, q_evS_2, q_evS_3, q_evS_4, q_evS_5, q_evS_6, q_evS_7, q_evS_8, q_evS_9, q_evS_10, q_evS_11, q_evS_12, q_evS_13, q_evS_14, q_evS_15, q_evS_16, q_evS_17, q_evS_18, q_evS_19, q_evS_20, q_evS_21, q_evSs_1, q_evSs_2, q_oa_0, q_rt_0, q_oa_1, q_rt_1, q_oa_2, q_rt_2, q_oa_3, q_rt_3, q_oa_4, q_rt_4, q_oa_5, q_rt_5, q_oa_6, q_rt_6, q_oa_7, q_rt_7, q_oa_8, q_rt_8, q_oa_9, q_rt_9, q_oa_10, q_rt_10, q_oa_11, q_rt_11, q_oa_12, q_rt_12, q_oa_13, q_rt_13, q_oa_14, q_rt_14, q_oa_15, q_rt_15, q_oa_16, q_rt_16, q_oa_17, q_rt_17, q_oa_18, q_rt_18, q_oa_19, q_rt_19, q_oa_20, q_rt_20, q_oa_21, q_rt_21, q_oa_22, q_rt_22, q_oa_23, q_rt_23, q_ar_0, q_ar_1, q_ar_2, asI_i, q_less1, q_less2, q_less3, q_slot, q_rows, q_dict, q_asInt, q_listIt, q_rowR, q_ret, q_bind, q_bindn, q_map, q_mapn, q_evT, q_own, startR, List.getElem?_cons_succ, List.getElem?_cons_zero, List.set_cons_succ, List.set_cons_zero, List.map_cons, List.map_nil, List.replicate, List.length_cons, List.length_nil, List.append_eq, List.nil_append, List.cons_append, Bool.and_true, Bool.true_and, Bool.and_false, Bool.false_and, Bool.not_true, Bool.not_false, if_true, if_false, reduceCtorEq, Nat.reduceSub, Nat.reduceAdd, Nat.reduceLeDiff, Bool.false_eq_true, Bool.or_false, Bool.false_or, ite_true, ite_false, lenOk_0, lenOk_1, lenOk_2, lenOk_3, lenOk_4, lenOk_5, lenOk_6, lenOk_7, lenOk_8, i_add, i_sub, i_neg, i_asI, N_int, i_inti, i_intb, decide_true, decide_false, h1, h2]
  rw [e]
theorem law_is_length_is {x : Q d} {k : Nat} (hx : Sz k x) (h : k ≤ 8000) : f__law_is_length [L x] = some (false, .bool true) := by
  have c1 := common_is (a := x.p) (b := x.q) hx.q (by omega)
  have c2 := common_is (a := (Int.gcd x.p x.q : Nat)) (b := x.s) hx.s (by omega)
  have hs := s_pos x
  have g : Int.gcd (Int.gcd x.p x.q : Nat) x.s = 1 := (x_nf x).one
  have h1 : evBI .isTuple [L x] = some (false, .bool true) := rfl
  have h2 : evBI .len [L x] = some (false, .int 3) := rfl
  have h3 : evBI .list [L x] = some (true, .list ([x.p, x.q, x.s].map .int)) := rfl
  have h4 := is_numbers_ints [x.p, x.q, x.s]
  unfold f__law_is_length evDef ir__law_is_length
  rw [List.map_cons, List.map_cons, List.map_cons, List.map_nil] at h3 h4
  have h5 : ¬ x.s < 1 := by omega
  simp only [q_wipeR_1, q_wipeR_2, q_asg_1, q_asg_2, q_asg_3, q_asg_4, q_asg_5, q_asg_6, q_asg_7, q_asgR_1, q_ownedArg_1, q_ownedArgs_1, q_ownedArgs_2, q_itemsOf_1, q_itemsOf_2, q_evE_1, q_evE_2, q_evE_3, q_evE_4, q_evE_5, q_evE_6, q_evE_7, q_evE_8, q_evE_9, q_evE_10, q_evE_11, q_evE_12, q_evE_13, q_evE_14, q_evE_15, q_evE_16, q_evE_17, q_evE_18, q_evE_19, q_evE_20, q_evE_21, q_evE_22, q_evE_23, q_evE_24, q_evE_25, q_evEs_1, q_evEs_2, q_evP_1, q_evP_2, q_evC_1, q_evC_2, q_evI_1, q_evI_2, q_evRet_1, q_evS_1, q_evS_2, q_evS_3, q_evS_4, q_evS_5, q_evS_6, q_evS_7, q_evS_8, q_evS_9, q_evS_10, q_evS_11, q_evS_12, q_evS_13, q_evS_14, q_evS_15, q_evS_16, q_evS_17, q_evS_18, q_evS_19, q_evS_20, q_evS_21, q_evSs_1, q_evSs_2, q_oa_0, q_rt_0, q_oa_1, q_rt_1, q_oa_2, q_rt_2, q_oa_3, q_rt_3, q_oa_4, q_rt_4, q_oa_5, q_rt_5, q_oa_6, q_rt_6, q_oa_7, q_rt_7, q_oa_8, q_rt_8, q_oa_9, q_rt_9, q_oa_10, q_rt_10, q_oa_11, q_rt_11, q_oa_12, q_rt_12, q_oa_13, q_rt_13, q_oa_14, q_rt_14, q_oa_15, q_rt_15, q_oa_16, q_rt_16, q_oa_17, q_rt_17, q_oa_18, q_rt_18, q_oa_19, q_rt_19, q_oa_20, q_rt_20, q_oa_21, q_rt_21, q_oa_22, q_rt_22, q_oa_23, q_rt_23, q_ar_0, q_ar_1, q_ar_2, asI_i, q_less1, q_less2, q_less3, q_slot, q_rows, q_dict, q_asInt, q_listIt, q_rowR, q_ret, q_bind, q_bindn, q_map, q_mapn, q_evT, q_own, startR, List.getElem?_cons_succ, List.getElem?_cons_zero, List.set_cons_succ, List.set_cons_zero, List.map_cons, List.map_nil, List.replicate, List.length_cons, List.length_nil, List.append_eq, List.nil_append, List.cons_append, Bool.and_true, Bool.true_and, Bool.and_false, Bool.false_and, Bool.not_true, Bool.not_false, if_true, if_false, reduceCtorEq, Nat.reduceSub, Nat.reduceAdd, Nat.reduceLeDiff, Bool.false_eq_true, Bool.or_false, Bool.false_or, ite_true, ite_false, lenOk_0, lenOk_1, lenOk_2, lenOk_3, lenOk_4, lenOk_5, lenOk_6, lenOk_7, lenOk_8, i_add, i_sub, i_neg, i_asI, N_int, i_inti, i_intb, decide_true, decide_false, h1, h2, h3, h4, i_ne, i_lt, i_eq, L_0, L_1, L_2, decide_eq_false h5, c1, c2, g, decide_true]
  rfl
/-- a cell of the draws -/
theorem cell_is {l : List Nat} {k : Nat} (h : k < l.length) : f__law_cell [.list (l.map N), .int (k : Int)] = some (false, .int (l[k] : Nat)) := by
  have h1 : evBI .len [.list (l.map N)] = some (false, .int (l.length : Nat)) := by
    show some (false, PyData.int (l.map N).length) = _
    rw [List.length_map]
  have h2 : evIx (.list (l.map N)) (.int (k : Int)) = some (false, .int (l[k] : Nat)) := by
    show (L2.atI (l.map N) (k : Int)).map _ = _
    rw [atI_N, List.getElem?_map, List.getElem?_eq_getElem h]
    rfl
  have h3 : (k : Int) < (l.length : Nat) := by omega
  unfold f__law_cell evDef ir__law_cell
  simp only [q_wipeR_1, q_wipeR_2, q_asg_1, q_asg_2, q_asg_3, q_asg_4, q_asg_5, q_asg_6, q_asg_7, q_asgR_1, q_ownedArg_1, q_ownedArgs_1, q_ownedArgs_2, q_itemsOf_1, q_itemsOf_2, q_evE_1, q_evE_2, q_evE_3, q_evE_4, q_evE_5, q_evE_6, q_evE_7, q_evE_8, q_evE_9, q_evE_10, q_evE_11, q_evE_12, q_evE_13, q_evE_14, q_evE_15, q_evE_16, q_evE_17, q_evE_18, q_evE_19, q_evE_20, q_evE_21, q_evE_22, q_evE_23, q_evE_24, q_evE_25, q_evEs_1, q_evEs_2, q_evP_1, q_evP_2, q_evC_1, q_evC_2, q_evI_1, q_evI_2, q_evRet_1, q_evS_1, q_evS_2, q_evS_3, q_evS_4, q_evS_5, q_evS_6, q_evS_7, q_evS_8, q_evS_9, q_evS_10, q_evS_11, q_evS_12, q_evS_13, q_evS_14, q_evS_15, q_evS_16, q_evS_17, q_evS_18, q_evS_19, q_evS_20, q_evS_21, q_evSs_1, q_evSs_2, q_oa_0, q_rt_0, q_oa_1, q_rt_1, q_oa_2, q_rt_2, q_oa_3, q_rt_3, q_oa_4, q_rt_4, q_oa_5, q_rt_5, q_oa_6, q_rt_6, q_oa_7, q_rt_7, q_oa_8, q_rt_8, q_oa_9, q_rt_9, q_oa_10, q_rt_10, q_oa_11, q_rt_11, q_oa_12, q_rt_12, q_oa_13, q_rt_13, q_oa_14, q_rt_14, q_oa_15, q_rt_15, q_oa_16, q_rt_16, q_oa_17, q_rt_17, q_oa_18, q_rt_18, q_oa_19, q_rt_19, q_oa_20, q_rt_20, q_oa_21, q_rt_21, q_oa_22, q_rt_22, q_oa_23, q_rt_23, q_ar_0, q_ar_1, q_ar_2, asI_i, q_less1, q_less2, q_less3, q_slot, q_rows, q_dict, q_asInt, q_listIt, q_rowR, q_ret, q_bind, q_bindn, q_map, q_mapn, q_evT, q_own, startR, List.getElem?_cons_succ, List.getElem?_cons_zero, List.set_cons_succ, List.set_cons_zero, List.map_cons, List.map_nil, List.replicate, List.length_cons, List.length_nil, List.append_eq, List.nil_append, List.cons_append, Bool.and_true, Bool.true_and, Bool.and_false, Bool.false_and, Bool.not_true, Bool.not_false, if_true, if_false, reduceCtorEq, Nat.reduceSub, Nat.reduceAdd, Nat.reduceLeDiff, Bool.false_eq_true, Bool.or_false, Bool.false_or, ite_true, ite_false, lenOk_0, lenOk_1, lenOk_2, lenOk_3, lenOk_4, lenOk_5, lenOk_6, lenOk_7, lenOk_8, i_add, i_sub, i_neg, i_asI, N_int, i_inti, i_intb, decide_true, decide_false, h1, i_lt, decide_eq_true h3, h2]
def ROOTS : List Nat := [2, 3, 5, 6, 7, 8, 10, 11, 13, 14, 15, 17, 19, 21, 23, 29, 31, 37, 41, 46, 50]
theorem root_is (c : Nat) : ∃ d, d ∈ ROOTS ∧ f__law_root [.int (c : Int)] = some (false, .int (d : Nat)) := by
  have hm : c % 21 < ROOTS.length := Nat.mod_lt _ (by decide)
  refine ⟨ROOTS[c % 21], List.getElem_mem hm, ?_⟩
  have h1 : evIx (.list (ROOTS.map N)) (.int ((c : Int) % 21)) = some (false, .int (ROOTS[c % 21] : Nat)) := by
    show (L2.atI (ROOTS.map N) ((c : Int) % 21)).map _ = _
    have e : (c : Int) % 21 = ((c % 21 : Nat) : Int) := by omega
    rw [e, atI_N, List.getElem?_map, List.getElem?_eq_getElem hm]
    rfl
  have h1 : evIx (.list [.int 2, .int 3, .int 5, .int 6, .int 7, .int 8, .int 10, .int 11, .int 13, .int 14, .int 15, .int 17, .int 19, .int 21, .int 23, .int 29, .int 31, .int 37, .int 41, .int 46, .int 50]) (.int ((c : Int) % 21)) = some (false, .int (ROOTS[c % 21] : Nat)) := h1
  unfold f__law_root evDef ir__law_root
  have hl : lenOk 21 = true := rfl
  simp only [q_wipeR_1, q_wipeR_2, q_asg_1, q_asg_2, q_asg_3, q_asg_4, q_asg_5, q_asg_6, q_asg_7, q_asgR_1, q_ownedArg_1, q_ownedArgs_1, q_ownedArgs_2, q_itemsOf_1, q_itemsOf_2, q_evE_1, q_evE_2, q_evE_3, q_evE_4, q_evE_5, q_evE_6, q_evE_7, q_evE_8, q_evE_9, q_evE_10, q_evE_11, q_evE_12, q_evE_13, q_evE_14, q_evE_15, q_evE_16, q_evE_17, q_evE_18, q_evE_19, q_evE_20, q_evE_21, q_evE_22, q_evE_23, q_evE_24, q_evE_25, q_evEs_1, q_evEs_2, q_evP_1, q_evP_2, q_evC_1, q_evC_2, q_evI_1, q_evI_2, q_evRet_1, q_evS_1, q_evS_2, q_evS_3, q_evS_4, q_evS_5, q_evS_6, q_evS_7, q_evS_8, q_evS_9, q_evS_10, q_evS_11, q_evS_12, q_evS_13, q_evS_14, q_evS_15, q_evS_16, q_evS_17, q_evS_18, q_evS_19, q_evS_20, q_evS_21, q_evSs_1, q_evSs_2, q_oa_0, q_rt_0, q_oa_1, q_rt_1, q_oa_2, q_rt_2, q_oa_3, q_rt_3, q_oa_4, q_rt_4, q_oa_5, q_rt_5, q_oa_6, q_rt_6, q_oa_7, q_rt_7, q_oa_8, q_rt_8, q_oa_9, q_rt_9, q_oa_10, q_rt_10, q_oa_11, q_rt_11, q_oa_12, q_rt_12, q_oa_13, q_rt_13, q_oa_14, q_rt_14, q_oa_15, q_rt_15, q_oa_16, q_rt_16, q_oa_17, q_rt_17, q_oa_18, q_rt_18, q_oa_19, q_rt_19, q_oa_20, q_rt_20, q_oa_21, q_rt_21, q_oa_22, q_rt_22, q_oa_23, q_rt_23, q_ar_0, q_ar_1, q_ar_2, asI_i, q_less1, q_less2, q_less3, q_slot, q_rows, q_dict, q_asInt, q_listIt, q_rowR, q_ret, q_bind, q_bindn, q_map, q_mapn, q_evT, q_own, startR, List.getElem?_cons_succ, List.getElem?_cons_zero, List.set_cons_succ, List.set_cons_zero, List.map_cons, List.map_nil, List.replicate, List.length_cons, List.length_nil, List.append_eq, List.nil_append, List.cons_append, Bool.and_true, Bool.true_and, Bool.and_false, Bool.false_and, Bool.not_true, Bool.not_false, if_true, if_false, reduceCtorEq, Nat.reduceSub, Nat.reduceAdd, Nat.reduceLeDiff, Bool.false_eq_true, Bool.or_false, Bool.false_or, ite_true, ite_false, lenOk_0, lenOk_1, lenOk_2, lenOk_3, lenOk_4, lenOk_5, lenOk_6, lenOk_7, lenOk_8, i_add, i_sub, i_neg, i_asI, N_int, i_inti, i_intb, decide_true, decide_false, i_mod (show (0 : Int) < 21 by decide), hl, h1]
/-- a drawn length -/
theorem above_is [NSq d] {l : List Nat} {k : Nat} (hd : d < 64) (h : k + 2 < l.length) : ∃ x : Q d, 0 < x ∧ Sz 4 x ∧ Dn 12 96 x ∧ f__law_above [.list (l.map N), .int (k : Int), .int (d : Int)] = some (false, L x) := by
  have c0 := cell_is (l := l) (k := k) (by omega)
  have c1 := cell_is (l := l) (k := k + 1) (by omega)
  have c2 := cell_is (l := l) (k := k + 2) (by omega)
  have e1 : ((k + 1 : Nat) : Int) = (k : Int) + 1 := by omega
  have e2 : ((k + 2 : Nat) : Int) = (k : Int) + 2 := by omega
  rw [e1] at c1
  rw [e2] at c2
  generalize l[k] = a at *
  generalize l[k + 1] = b at *
  generalize l[k + 2] = c at *
  have m3 : divOk 3 = true := by decide
  have m5 : divOk 5 = true := by decide
  have f3 : (b : Int).fdiv 3 = (b : Int) / 3 := Int.fdiv_eq_ediv_of_nonneg _ (by decide)
  have f5 : (c : Int).fdiv 5 = (c : Int) / 5 := Int.fdiv_eq_ediv_of_nonneg _ (by decide)
  have hp : ((a : Int) % 17 - 8).natAbs < 2 ^ 4 := by omega
  have hq : ((b : Int) / 3 % 9 - 4).natAbs < 2 ^ 4 := by omega
  have hs : (1 + (c : Int) / 5 % 4).natAbs < 2 ^ 4 := by omega
  have h0 : (1 + (c : Int) / 5 % 4) ≠ 0 := by omega
  have hL := length_is (d := d) h0 hp hq hs (by omega)
  have hz := Sz.of (d := d) h0 hp hq hs
  have hS := law_sign_is hd hz (by omega)
  have hD : Dn 12 96 (mkQ d ((a : Int) % 17 - 8) ((b : Int) / 3 % 9 - 4) (1 + (c : Int) / 5 % 4)) := by
    have e : (1 : Int) + (c : Int) / 5 % 4 = ((1 + c / 5 % 4 : Nat) : Int) := by omega
    rw [e]
    have p8 : ((a : Int) % 17 - 8).natAbs ≤ 8 := by omega
    have q8 : ((b : Int) / 3 % 9 - 4).natAbs ≤ 8 := by omega
    have hs : 1 + c / 5 % 4 = 1 ∨ 1 + c / 5 % 4 = 2 ∨ 1 + c / 5 % 4 = 3 ∨ 1 + c / 5 % 4 = 4 := by omega
    generalize 1 + c / 5 % 4 = s at *
    rcases hs with rfl | rfl | rfl | rfl
    · exact dn_mk (k := 12) (by decide) p8 q8
    · exact (dn_mk (k := 6) (by decide) p8 q8).mono (by decide)
    · exact (dn_mk (k := 4) (by decide) p8 q8).mono (by decide)
    · exact (dn_mk (k := 3) (by decide) p8 q8).mono (by decide)
  have run : ∀ (t : Int) (y : Q d), sgn (mkQ d ((a : Int) % 17 - 8) ((b : Int) / 3 % 9 - 4) (1 + (c : Int) / 5 % 4)) = t → (t = 0 ∨ t = 1 ∨ t = -1) → y = (if t = 0 then 1 else if t = 1 then mkQ d ((a : Int) % 17 - 8) ((b : Int) / 3 % 9 - 4) (1 + (c : Int) / 5 % 4) else -mkQ d ((a : Int) % 17 - 8) ((b : Int) / 3 % 9 - 4) (1 + (c : Int) / 5 % 4)) →
      f__law_above [.list (l.map N), .int (k : Int), .int (d : Int)] = some (false, L y) := by
    intro t y ht hc hy
    rw [ht] at hS
    generalize mkQ d ((a : Int) % 17 - 8) ((b : Int) / 3 % 9 - 4) (1 + (c : Int) / 5 % 4) = x at *
    have w1 : mulOk x.p t = true := mulOk_b hz.p (l := 2) (by rcases hc with h | h | h <;> rw [h] <;> decide) (by omega)
    have w2 : mulOk x.q t = true := mulOk_b hz.q (l := 2) (by rcases hc with h | h | h <;> rw [h] <;> decide) (by omega)
    unfold f__law_above evDef ir__law_above
    simp only [q_wipeR_1, q_wipeR_2, q_asg_1, q_asg_2, q_asg_3, q_asg_4, q_asg_5, q_asg_6, q_asg_7, q_asgR_1, q_ownedArg_1, q_ownedArgs_1, q_ownedArgs_2, q_itemsOf_1, q_itemsOf_2, q_evE_1, q_evE_2, q_evE_3, q_evE_4, q_evE_5, q_evE_6, q_evE_7, q_evE_8, q_evE_9, q_evE_10, q_evE_11, q_evE_12, q_evE_13, q_evE_14, q_evE_15, q_evE_16, q_evE_17, q_evE_18, q_evE_19, q_evE_20, q_evE_21, q_evE_22, q_evE_23, q_evE_24, q_evE_25, q_evEs_1, q_evEs_2, q_evP_1, q_evP_2, q_evC_1, q_evC_2, q_evI_1, q_evI_2, q_evRet_1, q_evS_1, q_evS_2, q_evS_3, q_evS_4, q_evS_5, q_evS_6, q_evS_7, q_evS_8, q_evS_9, q_evS_10, q_evS_11, q_evS_12, q_evS_13, q_evS_14, q_evS_15, q_evS_16, q_evS_17, q_evS_18, q_evS_19, q_evS_20, q_evS_21, q_evSs_1, q_evSs_2, q_oa_0, q_rt_0, q_oa_1, q_rt_1, q_oa_2, q_rt_2, q_oa_3, q_rt_3, q_oa_4, q_rt_4, q_oa_5, q_rt_5, q_oa_6, q_rt_6, q_oa_7, q_rt_7, q_oa_8, q_rt_8, q_oa_9, q_rt_9, q_oa_10, q_rt_10, q_oa_11, q_rt_11, q_oa_12, q_rt_12, q_oa_13, q_rt_13, q_oa_14, q_rt_14, q_oa_15, q_rt_15, q_oa_16, q_rt_16, q_oa_17, q_rt_17, q_oa_18, q_rt_18, q_oa_19, q_rt_19, q_oa_20, q_rt_20, q_oa_21, q_rt_21, q_oa_22, q_rt_22, q_oa_23, q_rt_23, q_ar_0, q_ar_1, q_ar_2, asI_i, q_less1, q_less2, q_less3, q_slot, q_rows, q_dict, q_asInt, q_listIt, q_rowR, q_ret, q_bind, q_bindn, q_map, q_mapn, q_evT, q_own, startR, List.getElem?_cons_succ, List.getElem?_cons_zero, List.set_cons_succ, List.set_cons_zero, List.map_cons, List.map_nil, List.replicate, List.length_cons, List.length_nil, List.append_eq, List.nil_append, List.cons_append, Bool.and_true, Bool.true_and, Bool.and_false, Bool.false_and, Bool.not_true, Bool.not_false, if_true, if_false, reduceCtorEq, Nat.reduceSub, Nat.reduceAdd, Nat.reduceLeDiff, Bool.false_eq_true, Bool.or_false, Bool.false_or, ite_true, ite_false, lenOk_0, lenOk_1, lenOk_2, lenOk_3, lenOk_4, lenOk_5, lenOk_6, lenOk_7, lenOk_8, i_add, i_sub, i_neg, i_asI, N_int, i_inti, i_intb, decide_true, decide_false, c0, c1, c2, i_mod (show (0 : Int) < 17 by decide), i_mod (show (0 : Int) < 9 by decide), i_mod (show (0 : Int) < 4 by decide), i_fdiv, m3, m5, f3, f5, hL, hS, i_eq]
    rcases hc with rfl | rfl | rfl
    · rw [if_pos rfl] at hy
      simp only [decide_true, q_wipeR_1, q_wipeR_2, q_asg_1, q_asg_2, q_asg_3, q_asg_4, q_asg_5, q_asg_6, q_asg_7, q_asgR_1, q_ownedArg_1, q_ownedArgs_1, q_ownedArgs_2, q_itemsOf_1, q_itemsOf_2, q_evE_1, q_evE_2, q_evE_3, q_evE_4, q_evE_5, q_evE_6, q_evE_7, q_evE_8, q_evE_9, q_evE_10, q_evE_11, q_evE_12, q_evE_13, q_evE_14, q_evE_15, q_evE_16, q_evE_17, q_evE_18, q_evE_19, q_evE_20, q_evE_21, q_evE_22, q_evE_23, q_evE_24, q_evE_25, q_evEs_1, q_evEs_2, q_evP_1, q_evP_2, q_evC_1, q_evC_2, q_evI_1, q_evI_2, q_evRet_1, q_evS_1, q_evS_2, q_evS_3, q_evS_4, q_evS_5, q_evS_6, q_evS_7, q_evS_8, q_evS_9, q_evS_10, q_evS_11, q_evS_12, q_evS_13, q_evS_14, q_evS_15, q_evS_16, q_evS_17, q_evS_18, q_evS_19, q_evS_20, q_evS_21, q_evSs_1, q_evSs_2, q_oa_0, q_rt_0, q_oa_1, q_rt_1, q_oa_2, q_rt_2, q_oa_3, q_rt_3, q_oa_4, q_rt_4, q_oa_5, q_rt_5, q_oa_6, q_rt_6, q_oa_7, q_rt_7, q_oa_8, q_rt_8, q_oa_9, q_rt_9, q_oa_10, q_rt_10, q_oa_11, q_rt_11, q_oa_12, q_rt_12, q_oa_13, q_rt_13, q_oa_14, q_rt_14, q_oa_15, q_rt_15, q_oa_16, q_rt_16, q_oa_17, q_rt_17, q_oa_18, q_rt_18, q_oa_19, q_rt_19, q_oa_20, q_rt_20, q_oa_21, q_rt_21, q_oa_22, q_rt_22, q_oa_23, q_rt_23, q_ar_0, q_ar_1, q_ar_2, asI_i, q_less1, q_less2, q_less3, q_slot, q_rows, q_dict, q_asInt, q_listIt, q_rowR, q_ret, q_bind, q_bindn, q_map, q_mapn, q_evT, q_own, startR, List.getElem?_cons_succ, List.getElem?_cons_zero, List.set_cons_succ, List.set_cons_zero, List.map_cons, List.map_nil, List.replicate, List.length_cons, List.length_nil, List.append_eq, List.nil_append, List.cons_append, Bool.and_true, Bool.true_and, Bool.and_false, Bool.false_and, Bool.not_true, Bool.not_false, if_true, if_false, reduceCtorEq, Nat.reduceSub, Nat.reduceAdd, Nat.reduceLeDiff, Bool.false_eq_true, Bool.or_false, Bool.false_or, ite_true, ite_false, lenOk_0, lenOk_1, lenOk_2, lenOk_3, lenOk_4, lenOk_5, lenOk_6, lenOk_7, lenOk_8, i_add, i_sub, i_neg, i_asI, N_int, i_inti, i_intb, decide_true, decide_false]
      rw [L_int (d := d), hy]
      rfl
    · rw [if_neg (by decide), if_pos rfl] at hy
      have n0 : decide ((1 : Int) = 0) = false := rfl
      simp only [n0, q_wipeR_1, q_wipeR_2, q_asg_1, q_asg_2, q_asg_3, q_asg_4, q_asg_5, q_asg_6, q_asg_7, q_asgR_1, q_ownedArg_1, q_ownedArgs_1, q_ownedArgs_2, q_itemsOf_1, q_itemsOf_2, q_evE_1, q_evE_2, q_evE_3, q_evE_4, q_evE_5, q_evE_6, q_evE_7, q_evE_8, q_evE_9, q_evE_10, q_evE_11, q_evE_12, q_evE_13, q_evE_14, q_evE_15, q_evE_16, q_evE_17, q_evE_18, q_evE_19, q_evE_20, q_evE_21, q_evE_22, q_evE_23, q_evE_24, q_evE_25, q_evEs_1, q_evEs_2, q_evP_1, q_evP_2, q_evC_1, q_evC_2, q_evI_1, q_evI_2, q_evRet_1, q_evS_1, q_evS_2, q_evS_3, q_evS_4, q_evS_5, q_evS_6, q_evS_7, q_evS_8, q_evS_9, q_evS_10, q_evS_11, q_evS_12, q_evS_13, q_evS_14, q_evS_15, q_evS_16, q_evS_17, q_evS_18, q_evS_19, q_evS_20, q_evS_21, q_evSs_1, q_evSs_2, q_oa_0, q_rt_0, q_oa_1, q_rt_1, q_oa_2, q_rt_2, q_oa_3, q_rt_3, q_oa_4, q_rt_4, q_oa_5, q_rt_5, q_oa_6, q_rt_6, q_oa_7, q_rt_7, q_oa_8, q_rt_8, q_oa_9, q_rt_9, q_oa_10, q_rt_10, q_oa_11, q_rt_11, q_oa_12, q_rt_12, q_oa_13, q_rt_13, q_oa_14, q_rt_14, q_oa_15, q_rt_15, q_oa_16, q_rt_16, q_oa_17, q_rt_17, q_oa_18, q_rt_18, q_oa_19, q_rt_19, q_oa_20, q_rt_20, q_oa_21, q_rt_21, q_oa_22, q_rt_22, q_oa_23, q_rt_23, q_ar_0, q_ar_1, q_ar_2, asI_i, q_less1, q_less2, q_less3, q_slot, q_rows, q_dict, q_asInt, q_listIt, q_rowR, q_ret, q_bind, q_bindn, q_map, q_mapn, q_evT, q_own, startR, List.getElem?_cons_succ, List.getElem?_cons_zero, List.set_cons_succ, List.set_cons_zero, List.map_cons, List.map_nil, List.replicate, List.length_cons, List.length_nil, List.append_eq, List.nil_append, List.cons_append, Bool.and_true, Bool.true_and, Bool.and_false, Bool.false_and, Bool.not_true, Bool.not_false, if_true, if_false, reduceCtorEq, Nat.reduceSub, Nat.reduceAdd, Nat.reduceLeDiff, Bool.false_eq_true, Bool.or_false, Bool.false_or, ite_true, ite_false, lenOk_0, lenOk_1, lenOk_2, lenOk_3, lenOk_4, lenOk_5, lenOk_6, lenOk_7, lenOk_8, i_add, i_sub, i_neg, i_asI, N_int, i_inti, i_intb, decide_true, decide_false, L_0, L_1, L_2, i_mul, w1, w2, Int.mul_one]
      rw [hy, L_def]
    · rw [if_neg (by decide), if_neg (by decide)] at hy
      have n0 : decide ((-1 : Int) = 0) = false := rfl
      have n1 : ∀ z : Int, z * -1 = -z := fun z => by omega
      simp only [n0, q_wipeR_1, q_wipeR_2, q_asg_1, q_asg_2, q_asg_3, q_asg_4, q_asg_5, q_asg_6, q_asg_7, q_asgR_1, q_ownedArg_1, q_ownedArgs_1, q_ownedArgs_2, q_itemsOf_1, q_itemsOf_2, q_evE_1, q_evE_2, q_evE_3, q_evE_4, q_evE_5, q_evE_6, q_evE_7, q_evE_8, q_evE_9, q_evE_10, q_evE_11, q_evE_12, q_evE_13, q_evE_14, q_evE_15, q_evE_16, q_evE_17, q_evE_18, q_evE_19, q_evE_20, q_evE_21, q_evE_22, q_evE_23, q_evE_24, q_evE_25, q_evEs_1, q_evEs_2, q_evP_1, q_evP_2, q_evC_1, q_evC_2, q_evI_1, q_evI_2, q_evRet_1, q_evS_1, q_evS_2, q_evS_3, q_evS_4, q_evS_5, q_evS_6, q_evS_7, q_evS_8, q_evS_9, q_evS_10, q_evS_11, q_evS_12, q_evS_13, q_evS_14, q_evS_15, q_evS_16, q_evS_17, q_evS_18, q_evS_19, q_evS_20, q_evS_21, q_evSs_1, q_evSs_2, q_oa_0, q_rt_0, q_oa_1, q_rt_1, q_oa_2, q_rt_2, q_oa_3, q_rt_3, q_oa_4, q_rt_4, q_oa_5, q_rt_5, q_oa_6, q_rt_6, q_oa_7, q_rt_7, q_oa_8, q_rt_8, q_oa_9, q_rt_9, q_oa_10, q_rt_10, q_oa_11, q_rt_11, q_oa_12, q_rt_12, q_oa_13, q_rt_13, q_oa_14, q_rt_14, q_oa_15, q_rt_15, q_oa_16, q_rt_16, q_oa_17, q_rt_17, q_oa_18, q_rt_18, q_oa_19, q_rt_19, q_oa_20, q_rt_20, q_oa_21, q_rt_21, q_oa_22, q_rt_22, q_oa_23, q_rt_23, q_ar_0, q_ar_1, q_ar_2, asI_i, q_less1, q_less2, q_less3, q_slot, q_rows, q_dict, q_asInt, q_listIt, q_rowR, q_ret, q_bind, q_bindn, q_map, q_mapn, q_evT, q_own, startR, List.getElem?_cons_succ, List.getElem?_cons_zero, List.set_cons_succ, List.set_cons_zero, List.map_cons, List.map_nil, List.replicate, List.length_cons, List.length_nil, List.append_eq, List.nil_append, List.cons_append, Bool.and_true, Bool.true_and, Bool.and_false, Bool.false_and, Bool.not_true, Bool.not_false, if_true, if_false, reduceCtorEq, Nat.reduceSub, Nat.reduceAdd, Nat.reduceLeDiff, Bool.false_eq_true, Bool.or_false, Bool.false_or, ite_true, ite_false, lenOk_0, lenOk_1, lenOk_2, lenOk_3, lenOk_4, lenOk_5, lenOk_6, lenOk_7, lenOk_8, i_add, i_sub, i_neg, i_asI, N_int, i_inti, i_intb, decide_true, decide_false, L_0, L_1, L_2, i_mul, w1, w2, n1]
      rw [hy, L_negt]
  rcases sgn_cases (mkQ d ((a : Int) % 17 - 8) ((b : Int) / 3 % 9 - 4) (1 + (c : Int) / 5 % 4)) with ⟨h1, h2⟩ | ⟨h1, h2⟩ | ⟨h1, h2⟩
  · exact ⟨_, h1, hz, hD, run 1 _ h2 (by omega) (by rw [if_neg (by decide), if_pos rfl])⟩
  · refine ⟨1, by grind, ?_, ⟨12, 0, by show (1 : Rat) * _ = _; rw [Rat.one_mul]; rfl, by show (0 : Rat) * _ = _; rw [Rat.zero_mul]; rfl, by decide, by decide⟩, run 0 _ h2 (by omega) (by rw [if_pos rfl])⟩
    obtain ⟨r1, r2, r3⟩ := int_rep (d := d) 1
    have r1 : (1 : Q d).p = 1 := r1
    have r2 : (1 : Q d).q = 0 := r2
    have r3 : (1 : Q d).s = 1 := r3
    exact ⟨by rw [r1]; decide, by rw [r2]; decide, by rw [r3]; decide⟩
  · exact ⟨_, by grind, neg_sz hz, hD.neg, run (-1) _ h2 (by omega) (by rw [if_neg (by decide), if_neg (by decide)])⟩
/-- all drawn lengths at once -/
theorem aboves [NSq d] {l : List Nat} (hd : d < 64) : ∃ A : Nat → Q d, ∀ k, k + 2 < l.length → 0 < A k ∧ Sz 4 (A k) ∧ Dn 12 96 (A k) ∧ f__law_above [.list (l.map N), .int (k : Int), .int (d : Int)] = some (false, L (A k)) := by
  refine ⟨fun k => if h : k + 2 < l.length then Classical.choose (above_is (d := d) (l := l) (k := k) hd h) else 0, fun k h => ?_⟩
  simp only [dif_pos h]
  exact Classical.choose_spec (above_is (d := d) (l := l) (k := k) hd h)
theorem nsq_roots {d : Nat} (h : d ∈ ROOTS) : d < 64 ∧ NSq d := by
  have h1 : d < 64 := by
    have : ∀ d ∈ ROOTS, d < 64 := by decide
    exact this d h
  refine ⟨h1, nsq_small h1 ?_⟩
  have : ∀ d ∈ ROOTS, ∀ r < 8, r * r ≠ d := by decide
  exact this d h
/-- the draws -/
theorem draws_eq : f__law_draws = PV.f_draws := rfl
theorem law_draws_is {ns : List Int} (hl : ns.length ≤ 63) (many : Nat) (hm : many ≤ 1000) : ∃ l : List Nat, l.length = many ∧ f__law_draws [.list (ns.map .int), .int (many : Int)] = some (true, .list (l.map N)) := by
  obtain ⟨l, e1, h1, h2⟩ := draws_is (many := many) hl hm
  rw [← draws_eq] at e1
  exact ⟨l, h1, e1⟩
theorem ix_draw {l : List Nat} {k : Nat} (h : k < l.length) : evIx (.list (l.map N)) (.int (k : Int)) = some (false, .int (l[k] : Nat)) := by
  show (L2.atI (l.map N) (k : Int)).map _ = _
  rw [atI_N, List.getElem?_map, List.getElem?_eq_getElem h]
  rfl
end K81

set_option Elab.async false
set_option linter.all false
set_option maxRecDepth 100000
set_option maxHeartbeats 4000000
namespace K81
open PySem L2 PV Qu
variable {d : Nat}
theorem minus_sz {x y : Q d} {k l : Nat} (hx : Sz k x) (hy : Sz l y) : Sz (k + l + 1) (x - y) := by
  have e : x - y = x + -y := by grind
  rw [e]
  exact plus_sz hx (neg_sz hy)
theorem law_minus_is {x y : Q d} {k l : Nat} (hx : Sz k x) (hy : Sz l y) (h : k + l ≤ 8800) : f__law_minus [L x, L y] = some (false, L (x - y)) := by
  have e := law_plus_is hx (neg_sz hy) h
  have e2 : x + -y = x - y := by grind
  rw [e2] at e
  unfold f__law_minus evDef ir__law_minus
  simp only [q_wipeR_1, q_wipeR_2, q_asg_1, q_asg_2, q_asg_3, q_asg_4, q_asg_5, q_asg_6, q_asg_7, q_asgR_1, q_ownedArg_1, q_ownedArgs_1, q_ownedArgs_2, q_itemsOf_1, q_itemsOf_2, q_evE_1, q_evE_2, q_evE_3, q_evE_4, q_evE_5, q_evE_6, q_evE_7, q_evE_8, q_evE_9, q_evE_10, q_evE_11, q_evE_12, q_evE_13, q_evE_14, q_evE_15, q_evE_16, q_evE_17, q_evE_18, q_evE_19, q_evE_20, q_evE_21, q_evE_22, q_evE_23, q_evE_24, q_evE_25, q_evEs_1, q_evEs_2, q_evP_1, q_evP_2, q_evC_1, q_evC_2, q_evI_1, q_evI_2, q_evRet_1, q_evS_1, q_evS_2, q_evS_3, q_evS_4, q_evS_5, q_evS_6, q_evS_7, q_evS_8, q_evS_9, q_evS_10, q_evS_11, q_evS_12, q_evS_13, q_evS_14, q_evS_15, q_evS_16, q_evS_17, q_evS_18, q_evS_19, q_evS_20, q_evS_21, q_evSs_1, q_evSs_2, q_oa_0, q_rt_0, q_oa_1, q_rt_1, q_oa_2, q_rt_2, q_oa_3, q_rt_3, q_oa_4, q_rt_4, q_oa_5, q_rt_5, q_oa_6, q_rt_6, q_oa_7, q_rt_7, q_oa_8, q_rt_8, q_oa_9, q_rt_9, q_oa_10, q_rt_10, q_oa_11, q_rt_11, q_oa_12, q_rt_12, q_oa_13, q_rt_13, q_oa_14, q_rt_14, q_oa_15, q_rt_15, q_oa_16, q_rt_16, q_oa_17, q_rt_17, q_oa_18, q_rt_18, q_oa_19, q_rt_19, q_oa_20, q_rt_20, q_oa_21, q_rt_21, q_oa_22, q_rt_22, q_oa_23, q_rt_23, q_ar_0, q_ar_1, q_ar_2, asI_i, q_less1, q_less2, q_less3, q_slot, q_rows, q_dict, q_asInt, q_listIt, q_rowR, q_ret, q_bind, q_bindn, q_map, q_mapn, q_evT, q_own, startR, List.getElem?_cons_succ, List.getElem?_cons_zero, List.set_cons_succ, List.set_cons_zero, List.map_cons, List.map_nil, List.replicate, List.length_cons, List.length_nil, List.append_eq, List.nil_append, List.cons_append, Bool.and_true, Bool.true_and, Bool.and_false, Bool.false_and, Bool.not_true, Bool.not_false, if_true, if_false, reduceCtorEq, Nat.reduceSub, Nat.reduceAdd, Nat.reduceLeDiff, Bool.false_eq_true, Bool.or_false, Bool.false_or, ite_true, ite_false, lenOk_0, lenOk_1, lenOk_2, lenOk_3, lenOk_4, lenOk_5, lenOk_6, lenOk_7, lenOk_8, i_add, i_sub, i_neg, i_asI, N_int, i_inti, i_intb, decide_true, decide_false, L_0, L_1, L_2]
  rw [L_negt, e]
  rfl
end K81

set_option Elab.async false
set_option linter.all false
set_option maxRecDepth 100000
set_option maxHeartbeats 4000000
namespace K81
open PySem L2 PV Qu
variable {d : Nat}
/-! ### the program's lengths -/
theorem p_whole_is (n : Int) : f_whole [.int n] = some (false, L (n : Q d)) := by
  unfold f_whole evDef ir_whole
  simp only [q_wipeR_1, q_wipeR_2, q_asg_1, q_asg_2, q_asg_3, q_asg_4, q_asg_5, q_asg_6, q_asg_7, q_asgR_1, q_ownedArg_1, q_ownedArgs_1, q_ownedArgs_2, q_itemsOf_1, q_itemsOf_2, q_evE_1, q_evE_2, q_evE_3, q_evE_4, q_evE_5, q_evE_6, q_evE_7, q_evE_8, q_evE_9, q_evE_10, q_evE_11, q_evE_12, q_evE_13, q_evE_14, q_evE_15, q_evE_16, q_evE_17, q_evE_18, q_evE_19, q_evE_20, q_evE_21, q_evE_22, q_evE_23, q_evE_24, q_evE_25, q_evEs_1, q_evEs_2, q_evP_1, q_evP_2, q_evC_1, q_evC_2, q_evI_1, q_evI_2, q_evRet_1, q_evS_1, q_evS_2, q_evS_3, q_evS_4, q_evS_5, q_evS_6, q_evS_7, q_evS_8, q_evS_9, q_evS_10, q_evS_11, q_evS_12, q_evS_13, q_evS_14, q_evS_15, q_evS_16, q_evS_17, q_evS_18, q_evS_19, q_evS_20, q_evS_21, q_evSs_1, q_evSs_2, q_oa_0, q_rt_0, q_oa_1, q_rt_1, q_oa_2, q_rt_2, q_oa_3, q_rt_3, q_oa_4, q_rt_4, q_oa_5, q_rt_5, q_oa_6, q_rt_6, q_oa_7, q_rt_7, q_oa_8, q_rt_8, q_oa_9, q_rt_9, q_oa_10, q_rt_10, q_oa_11, q_rt_11, q_oa_12, q_rt_12, q_oa_13, q_rt_13, q_oa_14, q_rt_14, q_oa_15, q_rt_15, q_oa_16, q_rt_16, q_oa_17, q_rt_17, q_oa_18, q_rt_18, q_oa_19, q_rt_19, q_oa_20, q_rt_20, q_oa_21, q_rt_21, q_oa_22, q_rt_22, q_oa_23, q_rt_23, q_ar_0, q_ar_1, q_ar_2, asI_i, q_less1, q_less2, q_less3, q_slot, q_rows, q_dict, q_asInt, q_listIt, q_rowR, q_ret, q_bind, q_bindn, q_map, q_mapn, q_evT, q_own, startR, List.getElem?_cons_succ, List.getElem?_cons_zero, List.set_cons_succ, List.set_cons_zero, List.map_cons, List.map_nil, List.replicate, List.length_cons, List.length_nil, List.append_eq, List.nil_append, List.cons_append, Bool.and_true, Bool.true_and, Bool.and_false, Bool.false_and, Bool.not_true, Bool.not_false, if_true, if_false, reduceCtorEq, Nat.reduceSub, Nat.reduceAdd, Nat.reduceLeDiff, Bool.false_eq_true, Bool.or_false, Bool.false_or, ite_true, ite_false, lenOk_0, lenOk_1, lenOk_2, lenOk_3, lenOk_4, lenOk_5, lenOk_6, lenOk_7, lenOk_8, i_add, i_sub, i_neg, i_asI, N_int, i_inti, i_intb, decide_true, decide_false]
  rw [L_int (d := d)]
theorem divisor_is (a b : Nat) {k : Nat} (hb : b < 2 ^ k) (hk : k ≤ 9000) : f_common_divisor [.int a, .int b] = some (false, .int (Nat.gcd a b : Nat)) := by
  have e := gcd_loop (c := tst iw_common_divisor_1) (f := blk FUEL ib_common_divisor_1) (fun a b => by
    unfold tst iw_common_divisor_1
    simp only [q_wipeR_1, q_wipeR_2, q_asg_1, q_asg_2, q_asg_3, q_asg_4, q_asg_5, q_asg_6, q_asg_7, q_asgR_1, q_ownedArg_1, q_ownedArgs_1, q_ownedArgs_2, q_itemsOf_1, q_itemsOf_2, q_evE_1, q_evE_2, q_evE_3, q_evE_4, q_evE_5, q_evE_6, q_evE_7, q_evE_8, q_evE_9, q_evE_10, q_evE_11, q_evE_12, q_evE_13, q_evE_14, q_evE_15, q_evE_16, q_evE_17, q_evE_18, q_evE_19, q_evE_20, q_evE_21, q_evE_22, q_evE_23, q_evE_24, q_evE_25, q_evEs_1, q_evEs_2, q_evP_1, q_evP_2, q_evC_1, q_evC_2, q_evI_1, q_evI_2, q_evRet_1, q_evS_1, q_evS_2, q_evS_3, q_evS_4, q_evS_5, q_evS_6, q_evS_7, q_evS_8, q_evS_9, q_evS_10, q_evS_11, q_evS_12, q_evS_13, q_evS_14, q_evS_15, q_evS_16, q_evS_17, q_evS_18, q_evS_19, q_evS_20, q_evS_21, q_evSs_1, q_evSs_2, q_oa_0, q_rt_0, q_oa_1, q_rt_1, q_oa_2, q_rt_2, q_oa_3, q_rt_3, q_oa_4, q_rt_4, q_oa_5, q_rt_5, q_oa_6, q_rt_6, q_oa_7, q_rt_7, q_oa_8, q_rt_8, q_oa_9, q_rt_9, q_oa_10, q_rt_10, q_oa_11, q_rt_11, q_oa_12, q_rt_12, q_oa_13, q_rt_13, q_oa_14, q_rt_14, q_oa_15, q_rt_15, q_oa_16, q_rt_16, q_oa_17, q_rt_17, q_oa_18, q_rt_18, q_oa_19, q_rt_19, q_oa_20, q_rt_20, q_oa_21, q_rt_21, q_oa_22, q_rt_22, q_oa_23, q_rt_23, q_ar_0, q_ar_1, q_ar_2, asI_i, q_less1, q_less2, q_less3, q_slot, q_rows, q_dict, q_asInt, q_listIt, q_rowR, q_ret, q_bind, q_bindn, q_map, q_mapn, q_evT, q_own, startR, List.getElem?_cons_succ, List.getElem?_cons_zero, List.set_cons_succ, List.set_cons_zero, List.map_cons, List.map_nil, List.replicate, List.length_cons, List.length_nil, List.append_eq, List.nil_append, List.cons_append, Bool.and_true, Bool.true_and, Bool.and_false, Bool.false_and, Bool.not_true, Bool.not_false, if_true, if_false, reduceCtorEq, Nat.reduceSub, Nat.reduceAdd, Nat.reduceLeDiff, Bool.false_eq_true, Bool.or_false, Bool.false_or, ite_true, ite_false, lenOk_0, lenOk_1, lenOk_2, lenOk_3, lenOk_4, lenOk_5, lenOk_6, lenOk_7, lenOk_8, i_add, i_sub, i_neg, i_asI, N_int, i_inti, i_intb, decide_true, decide_false, i_gt]
    congr 1
    rw [Bool.eq_iff_iff, decide_eq_true_eq, decide_eq_true_eq]
    omega) (fun a b h => by
    unfold blk ib_common_divisor_1
    simp only [q_wipeR_1, q_wipeR_2, q_asg_1, q_asg_2, q_asg_3, q_asg_4, q_asg_5, q_asg_6, q_asg_7, q_asgR_1, q_ownedArg_1, q_ownedArgs_1, q_ownedArgs_2, q_itemsOf_1, q_itemsOf_2, q_evE_1, q_evE_2, q_evE_3, q_evE_4, q_evE_5, q_evE_6, q_evE_7, q_evE_8, q_evE_9, q_evE_10, q_evE_11, q_evE_12, q_evE_13, q_evE_14, q_evE_15, q_evE_16, q_evE_17, q_evE_18, q_evE_19, q_evE_20, q_evE_21, q_evE_22, q_evE_23, q_evE_24, q_evE_25, q_evEs_1, q_evEs_2, q_evP_1, q_evP_2, q_evC_1, q_evC_2, q_evI_1, q_evI_2, q_evRet_1, q_evS_1, q_evS_2, q_evS_3, q_evS_4, q_evS_5, q_evS_6, q_evS_7, q_evS_8, q_evS_9, q_evS_10, q_evS_11, q_evS_12, q_evS_13, q_evS_14, q_evS_15, q_evS_16, q_evS_17, q_evS_18, q_evS_19, q_evS_20, q_evS_21, q_evSs_1, q_evSs_2, q_oa_0, q_rt_0, q_oa_1, q_rt_1, q_oa_2, q_rt_2, q_oa_3, q_rt_3, q_oa_4, q_rt_4, q_oa_5, q_rt_5, q_oa_6, q_rt_6, q_oa_7, q_rt_7, q_oa_8, q_rt_8, q_oa_9, q_rt_9, q_oa_10, q_rt_10, q_oa_11, q_rt_11, q_oa_12, q_rt_12, q_oa_13, q_rt_13, q_oa_14, q_rt_14, q_oa_15, q_rt_15, q_oa_16, q_rt_16, q_oa_17, q_rt_17, q_oa_18, q_rt_18, q_oa_19, q_rt_19, q_oa_20, q_rt_20, q_oa_21, q_rt_21, q_oa_22, q_rt_22, q_oa_23, q_rt_23, q_ar_0, q_ar_1, q_ar_2, asI_i, q_less1, q_less2, q_less3, q_slot, q_rows, q_dict, q_asInt, q_listIt, q_rowR, q_ret, q_bind, q_bindn, q_map, q_mapn, q_evT, q_own, startR, List.getElem?_cons_succ, List.getElem?_cons_zero, List.set_cons_succ, List.set_cons_zero, List.map_cons, List.map_nil, List.replicate, List.length_cons, List.length_nil, List.append_eq, List.nil_append, List.cons_append, Bool.and_true, Bool.true_and, Bool.and_false, Bool.false_and, Bool.not_true, Bool.not_false, if_true, if_false, reduceCtorEq, Nat.reduceSub, Nat.reduceAdd, Nat.reduceLeDiff, Bool.false_eq_true, Bool.or_false, Bool.false_or, ite_true, ite_false, lenOk_0, lenOk_1, lenOk_2, lenOk_3, lenOk_4, lenOk_5, lenOk_6, lenOk_7, lenOk_8, i_add, i_sub, i_neg, i_asI, N_int, i_inti, i_intb, decide_true, decide_false, i_mod (show (0 : Int) < b by omega)]
    rfl) k a b FUEL hb (fuel_gcd hk)
  unfold f_common_divisor evDef ir_common_divisor
  simp only [q_wipeR_1, q_wipeR_2, q_asg_1, q_asg_2, q_asg_3, q_asg_4, q_asg_5, q_asg_6, q_asg_7, q_asgR_1, q_ownedArg_1, q_ownedArgs_1, q_ownedArgs_2, q_itemsOf_1, q_itemsOf_2, q_evE_1, q_evE_2, q_evE_3, q_evE_4, q_evE_5, q_evE_6, q_evE_7, q_evE_8, q_evE_9, q_evE_10, q_evE_11, q_evE_12, q_evE_13, q_evE_14, q_evE_15, q_evE_16, q_evE_17, q_evE_18, q_evE_19, q_evE_20, q_evE_21, q_evE_22, q_evE_23, q_evE_24, q_evE_25, q_evEs_1, q_evEs_2, q_evP_1, q_evP_2, q_evC_1, q_evC_2, q_evI_1, q_evI_2, q_evRet_1, q_evS_1, q_evS_2, q_evS_3, q_evS_4, q_evS_5, q_evS_6, q_evS_7, q_evS_8, q_evS_9, q_evS_10, q_evS_11, q_evS_12, q_evS_13, q_evS_14, q_evS_15, q_evS_16, q_evS_17, q_evS_18, q_evS_19, q_evS_20, q_evS_21, q_evSs_1, q_evSs_2, q_oa_0, q_rt_0, q_oa_1, q_rt_1, q_oa_2, q_rt_2, q_oa_3, q_rt_3, q_oa_4, q_rt_4, q_oa_5, q_rt_5, q_oa_6, q_rt_6, q_oa_7, q_rt_7, q_oa_8, q_rt_8, q_oa_9, q_rt_9, q_oa_10, q_rt_10, q_oa_11, q_rt_11, q_oa_12, q_rt_12, q_oa_13, q_rt_13, q_oa_14, q_rt_14, q_oa_15, q_rt_15, q_oa_16, q_rt_16, q_oa_17, q_rt_17, q_oa_18, q_rt_18, q_oa_19, q_rt_19, q_oa_20, q_rt_20, q_oa_21, q_rt_21, q_oa_22, q_rt_22, q_oa_23, q_rt_23, q_ar_0, q_ar_1, q_ar_2, asI_i, q_less1, q_less2, q_less3, q_slot, q_rows, q_dict, q_asInt, q_listIt, q_rowR, q_ret, q_bind, q_bindn, q_map, q_mapn, q_evT, q_own, startR, List.getElem?_cons_succ, List.getElem?_cons_zero, List.set_cons_succ, List.set_cons_zero, List.map_cons, List.map_nil, List.replicate, List.length_cons, List.length_nil, List.append_eq, List.nil_append, List.cons_append, Bool.and_true, Bool.true_and, Bool.and_false, Bool.false_and, Bool.not_true, Bool.not_false, if_true, if_false, reduceCtorEq, Nat.reduceSub, Nat.reduceAdd, Nat.reduceLeDiff, Bool.false_eq_true, Bool.or_false, Bool.false_or, ite_true, ite_false, lenOk_0, lenOk_1, lenOk_2, lenOk_3, lenOk_4, lenOk_5, lenOk_6, lenOk_7, lenOk_8, i_add, i_sub, i_neg, i_asI, N_int, i_inti, i_intb, decide_true, decide_false]
  rw [e]
  simp only [q_wipeR_1, q_wipeR_2, q_asg_1, q_asg_2, q_asg_3, q_asg_4, q_asg_5, q_asg_6, q_asg_7, q_asgR_1, q_ownedArg_1, q_ownedArgs_1, q_ownedArgs_2, q_itemsOf_1, q_itemsOf_2, q_evE_1, q_evE_2, q_evE_3, q_evE_4, q_evE_5, q_evE_6, q_evE_7, q_evE_8, q_evE_9, q_evE_10, q_evE_11, q_evE_12, q_evE_13, q_evE_14, q_evE_15, q_evE_16, q_evE_17, q_evE_18, q_evE_19, q_evE_20, q_evE_21, q_evE_22, q_evE_23, q_evE_24, q_evE_25, q_evEs_1, q_evEs_2, q_evP_1, q_evP_2, q_evC_1, q_evC_2, q_evI_1, q_evI_2, q_evRet_1, q_evS_1, q_evS_2, q_evS_3, q_evS_4, q_evS_5, q_evS_6, q_evS_7, q_evS_8, q_evS_9, q_evS_10, q_evS_11, q_evS_12, q_evS_13, q_evS_14, q_evS_15, q_evS_16, q_evS_17, q_evS_18, q_evS_19, q_evS_20, q_evS_21, q_evSs_1, q_evSs_2, q_oa_0, q_rt_0, q_oa_1, q_rt_1, q_oa_2, q_rt_2, q_oa_3, q_rt_3, q_oa_4, q_rt_4, q_oa_5, q_rt_5, q_oa_6, q_rt_6, q_oa_7, q_rt_7, q_oa_8, q_rt_8, q_oa_9, q_rt_9, q_oa_10, q_rt_10, q_oa_11, q_rt_11, q_oa_12, q_rt_12, q_oa_13, q_rt_13, q_oa_14, q_rt_14, q_oa_15, q_rt_15, q_oa_16, q_rt_16, q_oa_17, q_rt_17, q_oa_18, q_rt_18, q_oa_19, q_rt_19, q_oa_20, q_rt_20, q_oa_21, q_rt_21, q_oa_22, q_rt_22, q_oa_23, q_rt_23, q_ar_0, q_ar_1, q_ar_2, asI_i, q_less1, q_less2, q_less3, q_slot, q_rows, q_dict, q_asInt, q_listIt, q_rowR, q_ret, q_bind, q_bindn, q_map, q_mapn, q_evT, q_own, startR, List.getElem?_cons_succ, List.getElem?_cons_zero, List.set_cons_succ, List.set_cons_zero, List.map_cons, List.map_nil, List.replicate, List.length_cons, List.length_nil, List.append_eq, List.nil_append, List.cons_append, Bool.and_true, Bool.true_and, Bool.and_false, Bool.false_and, Bool.not_true, Bool.not_false, if_true, if_false, reduceCtorEq, Nat.reduceSub, Nat.reduceAdd, Nat.reduceLeDiff, Bool.false_eq_true, Bool.or_false, Bool.false_or, ite_true, ite_false, lenOk_0, lenOk_1, lenOk_2, lenOk_3, lenOk_4, lenOk_5, lenOk_6, lenOk_7, lenOk_8, i_add, i_sub, i_neg, i_asI, N_int, i_inti, i_intb, decide_true, decide_false]
theorem three_is {p q s : Int} {k : Nat} (hq : q.natAbs < 2 ^ k) (hs : s.natAbs < 2 ^ k) (hk : k ≤ 8900) : f_common_of_three [.int p, .int q, .int s] = some (false, .int (g3 p q s : Nat)) := by
  have c1 := divisor_is p.natAbs q.natAbs hq (by omega)
  have c2 := divisor_is (Nat.gcd p.natAbs q.natAbs) s.natAbs hs (by omega)
  unfold f_common_of_three evDef ir_common_of_three
  simp only [q_wipeR_1, q_wipeR_2, q_asg_1, q_asg_2, q_asg_3, q_asg_4, q_asg_5, q_asg_6, q_asg_7, q_asgR_1, q_ownedArg_1, q_ownedArgs_1, q_ownedArgs_2, q_itemsOf_1, q_itemsOf_2, q_evE_1, q_evE_2, q_evE_3, q_evE_4, q_evE_5, q_evE_6, q_evE_7, q_evE_8, q_evE_9, q_evE_10, q_evE_11, q_evE_12, q_evE_13, q_evE_14, q_evE_15, q_evE_16, q_evE_17, q_evE_18, q_evE_19, q_evE_20, q_evE_21, q_evE_22, q_evE_23, q_evE_24, q_evE_25, q_evEs_1, q_evEs_2, q_evP_1, q_evP_2, q_evC_1, q_evC_2, q_evI_1, q_evI_2, q_evRet_1, q_evS_1, q_evS_2, q_evS_3, q_evS_4, q_evS_5, q_evS_6, q_evS_7, q_evS_8, q_evS_9, q_evS_10, q_evS_11, q_evS_12, q_evS_13, q_evS_14, q_evS_15, q_evS_16, q_evS_17, q_evS_18, q_evS_19, q_evS_20, q_evS_21, q_evSs_1, q_evSs_2, q_oa_0, q_rt_0, q_oa_1, q_rt_1, q_oa_2, q_rt_2, q_oa_3, q_rt_3, q_oa_4, q_rt_4, q_oa_5, q_rt_5, q_oa_6, q_rt_6, q_oa_7, q_rt_7, q_oa_8, q_rt_8, q_oa_9, q_rt_9, q_oa_10, q_rt_10, q_oa_11, q_rt_11, q_oa_12, q_rt_12, q_oa_13, q_rt_13, q_oa_14, q_rt_14, q_oa_15, q_rt_15, q_oa_16, q_rt_16, q_oa_17, q_rt_17, q_oa_18, q_rt_18, q_oa_19, q_rt_19, q_oa_20, q_rt_20, q_oa_21, q_rt_21, q_oa_22, q_rt_22, q_oa_23, q_rt_23, q_ar_0, q_ar_1, q_ar_2, asI_i, q_less1, q_less2, q_less3, q_slot, q_rows, q_dict, q_asInt, q_listIt, q_rowR, q_ret, q_bind, q_bindn, q_map, q_mapn, q_evT, q_own, startR, List.getElem?_cons_succ, List.getElem?_cons_zero, List.set_cons_succ, List.set_cons_zero, List.map_cons, List.map_nil, List.replicate, List.length_cons, List.length_nil, List.append_eq, List.nil_append, List.cons_append, Bool.and_true, Bool.true_and, Bool.and_false, Bool.false_and, Bool.not_true, Bool.not_false, if_true, if_false, reduceCtorEq, Nat.reduceSub, Nat.reduceAdd, Nat.reduceLeDiff, Bool.false_eq_true, Bool.or_false, Bool.false_or, ite_true, ite_false, lenOk_0, lenOk_1, lenOk_2, lenOk_3, lenOk_4, lenOk_5, lenOk_6, lenOk_7, lenOk_8, i_add, i_sub, i_neg, i_asI, N_int, i_inti, i_intb, decide_true, decide_false, i_abs, c1, c2]
  rfl
theorem p_length_is {p q s : Int} {k : Nat} (h0 : s ≠ 0) (hq : q.natAbs < 2 ^ k) (hs : s.natAbs < 2 ^ k) (hk : k ≤ 8900) : f_length [.int p, .int q, .int s] = some (false, L (mkQ d p q s)) := by
  have c1 := three_is (p := p) hq hs hk
  have hd : divOk (dv p q s) = true := divOk_b (dv_ne h0) (Nat.lt_of_le_of_lt (dv_le h0) hs) hk
  unfold f_length evDef ir_length
  by_cases h : s < 0
  · have e : -(g3 p q s : Int) = dv p q s := by unfold dv; rw [if_pos h]
    simp only [q_wipeR_1, q_wipeR_2, q_asg_1, q_asg_2, q_asg_3, q_asg_4, q_asg_5, q_asg_6, q_asg_7, q_asgR_1, q_ownedArg_1, q_ownedArgs_1, q_ownedArgs_2, q_itemsOf_1, q_itemsOf_2, q_evE_1, q_evE_2, q_evE_3, q_evE_4, q_evE_5, q_evE_6, q_evE_7, q_evE_8, q_evE_9, q_evE_10, q_evE_11, q_evE_12, q_evE_13, q_evE_14, q_evE_15, q_evE_16, q_evE_17, q_evE_18, q_evE_19, q_evE_20, q_evE_21, q_evE_22, q_evE_23, q_evE_24, q_evE_25, q_evEs_1, q_evEs_2, q_evP_1, q_evP_2, q_evC_1, q_evC_2, q_evI_1, q_evI_2, q_evRet_1, q_evS_1, q_evS_2, q_evS_3, q_evS_4, q_evS_5, q_evS_6, q_evS_7, q_evS_8, q_evS_9, q_evS_10, q_evS_11, q_evS_12, q_evS_13, q_evS_14, q_evS_15, q_evS_16, q_evS_17, q_evS_18, q_evS_19, q_evS_20, q_evS_21, q_evSs_1, q_evSs_2, q_oa_0, q_rt_0, q_oa_1, q_rt_1, q_oa_2, q_rt_2, q_oa_3, q_rt_3, q_oa_4, q_rt_4, q_oa_5, q_rt_5, q_oa_6, q_rt_6, q_oa_7, q_rt_7, q_oa_8, q_rt_8, q_oa_9, q_rt_9, q_oa_10, q_rt_10, q_oa_11, q_rt_11, q_oa_12, q_rt_12, q_oa_13, q_rt_13, q_oa_14, q_rt_14, q_oa_15, q_rt_15, q_oa_16, q_rt_16, q_oa_17, q_rt_17, q_oa_18, q_rt_18, q_oa_19, q_rt_19, q_oa_20, q_rt_20, q_oa_21, q_rt_21, q_oa_22, q_rt_22, q_oa_23, q_rt_23, q_ar_0, q_ar_1, q_ar_2, asI_i, q_less1, q_less2, q_less3, q_slot, q_rows, q_dict, q_asInt, q_listIt, q_rowR, q_ret, q_bind, q_bindn, q_map, q_mapn, q_evT, q_own, startR, List.getElem?_cons_succ, List.getElem?_cons_zero, List.set_cons_succ, List.set_cons_zero, List.map_cons, List.map_nil, List.replicate, List.length_cons, List.length_nil, List.append_eq, List.nil_append, List.cons_append, Bool.and_true, Bool.true_and, Bool.and_false, Bool.false_and, Bool.not_true, Bool.not_false, if_true, if_false, reduceCtorEq, Nat.reduceSub, Nat.reduceAdd, Nat.reduceLeDiff, Bool.false_eq_true, Bool.or_false, Bool.false_or, ite_true, ite_false, lenOk_0, lenOk_1, lenOk_2, lenOk_3, lenOk_4, lenOk_5, lenOk_6, lenOk_7, lenOk_8, i_add, i_sub, i_neg, i_asI, N_int, i_inti, i_intb, decide_true, decide_false, c1, i_lt, decide_eq_true h, e, i_fdiv, hd]
    rw [L_nz h0 rfl]
  · have e : (g3 p q s : Int) = dv p q s := by unfold dv; rw [if_neg h]
    simp only [q_wipeR_1, q_wipeR_2, q_asg_1, q_asg_2, q_asg_3, q_asg_4, q_asg_5, q_asg_6, q_asg_7, q_asgR_1, q_ownedArg_1, q_ownedArgs_1, q_ownedArgs_2, q_itemsOf_1, q_itemsOf_2, q_evE_1, q_evE_2, q_evE_3, q_evE_4, q_evE_5, q_evE_6, q_evE_7, q_evE_8, q_evE_9, q_evE_10, q_evE_11, q_evE_12, q_evE_13, q_evE_14, q_evE_15, q_evE_16, q_evE_17, q_evE_18, q_evE_19, q_evE_20, q_evE_21, q_evE_22, q_evE_23, q_evE_24, q_evE_25, q_evEs_1, q_evEs_2, q_evP_1, q_evP_2, q_evC_1, q_evC_2, q_evI_1, q_evI_2, q_evRet_1, q_evS_1, q_evS_2, q_evS_3, q_evS_4, q_evS_5, q_evS_6, q_evS_7, q_evS_8, q_evS_9, q_evS_10, q_evS_11, q_evS_12, q_evS_13, q_evS_14, q_evS_15, q_evS_16, q_evS_17, q_evS_18, q_evS_19, q_evS_20, q_evS_21, q_evSs_1, q_evSs_2, q_oa_0, q_rt_0, q_oa_1, q_rt_1, q_oa_2, q_rt_2, q_oa_3, q_rt_3, q_oa_4, q_rt_4, q_oa_5, q_rt_5, q_oa_6, q_rt_6, q_oa_7, q_rt_7, q_oa_8, q_rt_8, q_oa_9, q_rt_9, q_oa_10, q_rt_10, q_oa_11, q_rt_11, q_oa_12, q_rt_12, q_oa_13, q_rt_13, q_oa_14, q_rt_14, q_oa_15, q_rt_15, q_oa_16, q_rt_16, q_oa_17, q_rt_17, q_oa_18, q_rt_18, q_oa_19, q_rt_19, q_oa_20, q_rt_20, q_oa_21, q_rt_21, q_oa_22, q_rt_22, q_oa_23, q_rt_23, q_ar_0, q_ar_1, q_ar_2, asI_i, q_less1, q_less2, q_less3, q_slot, q_rows, q_dict, q_asInt, q_listIt, q_rowR, q_ret, q_bind, q_bindn, q_map, q_mapn, q_evT, q_own, startR, List.getElem?_cons_succ, List.getElem?_cons_zero, List.set_cons_succ, List.set_cons_zero, List.map_cons, List.map_nil, List.replicate, List.length_cons, List.length_nil, List.append_eq, List.nil_append, List.cons_append, Bool.and_true, Bool.true_and, Bool.and_false, Bool.false_and, Bool.not_true, Bool.not_false, if_true, if_false, reduceCtorEq, Nat.reduceSub, Nat.reduceAdd, Nat.reduceLeDiff, Bool.false_eq_true, Bool.or_false, Bool.false_or, ite_true, ite_false, lenOk_0, lenOk_1, lenOk_2, lenOk_3, lenOk_4, lenOk_5, lenOk_6, lenOk_7, lenOk_8, i_add, i_sub, i_neg, i_asI, N_int, i_inti, i_intb, decide_true, decide_false, c1, i_lt, decide_eq_false h, e, i_fdiv, hd]
    rw [L_nz h0 rfl]
theorem p_plus_is {x y : Q d} {k l : Nat} (hx : Sz k x) (hy : Sz l y) (h : k + l ≤ 8800) : f_plus [L x, L y] = some (false, L (x + y)) := by
  have hs : x.s * y.s ≠ 0 := by have := Int.mul_pos (s_pos x) (s_pos y); omega
  have e := p_length_is (d := d) (p := x.p * y.s + y.p * x.s) (k := k + l + 1) hs (nat_add_lt (nat_mul_lt hx.q hy.s) (by rw [Nat.add_comm k l]; exact nat_mul_lt hy.q hx.s)) (nat_lt_mono (nat_mul_lt hx.s hy.s) (by omega)) (by omega)
  rw [t_plus] at e
  unfold f_plus evDef ir_plus
  simp only [q_wipeR_1, q_wipeR_2, q_asg_1, q_asg_2, q_asg_3, q_asg_4, q_asg_5, q_asg_6, q_asg_7, q_asgR_1, q_ownedArg_1, q_ownedArgs_1, q_ownedArgs_2, q_itemsOf_1, q_itemsOf_2, q_evE_1, q_evE_2, q_evE_3, q_evE_4, q_evE_5, q_evE_6, q_evE_7, q_evE_8, q_evE_9, q_evE_10, q_evE_11, q_evE_12, q_evE_13, q_evE_14, q_evE_15, q_evE_16, q_evE_17, q_evE_18, q_evE_19, q_evE_20, q_evE_21, q_evE_22, q_evE_23, q_evE_24, q_evE_25, q_evEs_1, q_evEs_2, q_evP_1, q_evP_2, q_evC_1, q_evC_2, q_evI_1, q_evI_2, q_evRet_1, q_evS_1, q_evS_2, q_evS_3, q_evS_4, q_evS_5, q_evS_6, q_evS_7, q_evS_8, q_evS_9, q_evS_10, q_evS_11, q_evS_12, q_evS_13, q_evS_14, q_evS_15, q_evS_16, q_evS_17, q_evS_18, q_evS_19, q_evS_20, q_evS_21, q_evSs_1, q_evSs_2, q_oa_0, q_rt_0, q_oa_1, q_rt_1, q_oa_2, q_rt_2, q_oa_3, q_rt_3, q_oa_4, q_rt_4, q_oa_5, q_rt_5, q_oa_6, q_rt_6, q_oa_7, q_rt_7, q_oa_8, q_rt_8, q_oa_9, q_rt_9, q_oa_10, q_rt_10, q_oa_11, q_rt_11, q_oa_12, q_rt_12, q_oa_13, q_rt_13, q_oa_14, q_rt_14, q_oa_15, q_rt_15, q_oa_16, q_rt_16, q_oa_17, q_rt_17, q_oa_18, q_rt_18, q_oa_19, q_rt_19, q_oa_20, q_rt_20, q_oa_21, q_rt_21, q_oa_22, q_rt_22, q_oa_23, q_rt_23, q_ar_0, q_ar_1, q_ar_2, asI_i, q_less1, q_less2, q_less3, q_slot, q_rows, q_dict, q_asInt, q_listIt, q_rowR, q_ret, q_bind, q_bindn, q_map, q_mapn, q_evT, q_own, startR, List.getElem?_cons_succ, List.getElem?_cons_zero, List.set_cons_succ, List.set_cons_zero, List.map_cons, List.map_nil, List.replicate, List.length_cons, List.length_nil, List.append_eq, List.nil_append, List.cons_append, Bool.and_true, Bool.true_and, Bool.and_false, Bool.false_and, Bool.not_true, Bool.not_false, if_true, if_false, reduceCtorEq, Nat.reduceSub, Nat.reduceAdd, Nat.reduceLeDiff, Bool.false_eq_true, Bool.or_false, Bool.false_or, ite_true, ite_false, lenOk_0, lenOk_1, lenOk_2, lenOk_3, lenOk_4, lenOk_5, lenOk_6, lenOk_7, lenOk_8, i_add, i_sub, i_neg, i_asI, N_int, i_inti, i_intb, decide_true, decide_false, L_asg, i_mul, mul_of hx.p hy.s (by omega), mul_of hy.p hx.s (by omega), mul_of hx.q hy.s (by omega), mul_of hy.q hx.s (by omega), mul_of hx.s hy.s (by omega), e]
theorem p_times_is {x y : Q d} {k l : Nat} (hd : d < 64) (hx : Sz k x) (hy : Sz l y) (h : k + l ≤ 8800) : f_times [.int (d : Int), L x, L y] = some (false, L (x * y)) := by
  have hs : x.s * y.s ≠ 0 := by have := Int.mul_pos (s_pos x) (s_pos y); omega
  have h6 : ((d : Int)).natAbs < 2 ^ 6 := by omega
  have e := p_length_is (d := d) (p := x.p * y.p + (d : Int) * x.q * y.q) (k := k + l + 7) hs (nat_lt_mono (nat_add_lt (k := k + l) (nat_mul_lt hx.p hy.q) (nat_mul_lt hx.q hy.p)) (by omega)) (nat_lt_mono (nat_mul_lt hx.s hy.s) (by omega)) (by omega)
  rw [t_times] at e
  unfold f_times evDef ir_times
  simp only [q_wipeR_1, q_wipeR_2, q_asg_1, q_asg_2, q_asg_3, q_asg_4, q_asg_5, q_asg_6, q_asg_7, q_asgR_1, q_ownedArg_1, q_ownedArgs_1, q_ownedArgs_2, q_itemsOf_1, q_itemsOf_2, q_evE_1, q_evE_2, q_evE_3, q_evE_4, q_evE_5, q_evE_6, q_evE_7, q_evE_8, q_evE_9, q_evE_10, q_evE_11, q_evE_12, q_evE_13, q_evE_14, q_evE_15, q_evE_16, q_evE_17, q_evE_18, q_evE_19, q_evE_20, q_evE_21, q_evE_22, q_evE_23, q_evE_24, q_evE_25, q_evEs_1, q_evEs_2, q_evP_1, q_evP_2, q_evC_1, q_evC_2, q_evI_1, q_evI_2, q_evRet_1, q_evS_1, q_evS_2, q_evS_3, q_evS_4, q_evS_5, q_evS_6, q_evS_7, q_evS_8, q_evS_9, q_evS_10, q_evS_11, q_evS_12, q_evS_13, q_evS_14, q_evS_15, q_evS_16, q_evS_17, q_evS_18, q_evS_19, q_evS_20, q_evS_21, q_evSs_1, q_evSs_2, q_oa_0, q_rt_0, q_oa_1, q_rt_1, q_oa_2, q_rt_2, q_oa_3, q_rt_3, q_oa_4, q_rt_4, q_oa_5, q_rt_5, q_oa_6, q_rt_6, q_oa_7, q_rt_7, q_oa_8, q_rt_8, q_oa_9, q_rt_9, q_oa_10, q_rt_10, q_oa_11, q_rt_11, q_oa_12, q_rt_12, q_oa_13, q_rt_13, q_oa_14, q_rt_14, q_oa_15, q_rt_15, q_oa_16, q_rt_16, q_oa_17, q_rt_17, q_oa_18, q_rt_18, q_oa_19, q_rt_19, q_oa_20, q_rt_20, q_oa_21, q_rt_21, q_oa_22, q_rt_22, q_oa_23, q_rt_23, q_ar_0, q_ar_1, q_ar_2, asI_i, q_less1, q_less2, q_less3, q_slot, q_rows, q_dict, q_asInt, q_listIt, q_rowR, q_ret, q_bind, q_bindn, q_map, q_mapn, q_evT, q_own, startR, List.getElem?_cons_succ, List.getElem?_cons_zero, List.set_cons_succ, List.set_cons_zero, List.map_cons, List.map_nil, List.replicate, List.length_cons, List.length_nil, List.append_eq, List.nil_append, List.cons_append, Bool.and_true, Bool.true_and, Bool.and_false, Bool.false_and, Bool.not_true, Bool.not_false, if_true, if_false, reduceCtorEq, Nat.reduceSub, Nat.reduceAdd, Nat.reduceLeDiff, Bool.false_eq_true, Bool.or_false, Bool.false_or, ite_true, ite_false, lenOk_0, lenOk_1, lenOk_2, lenOk_3, lenOk_4, lenOk_5, lenOk_6, lenOk_7, lenOk_8, i_add, i_sub, i_neg, i_asI, N_int, i_inti, i_intb, decide_true, decide_false, L_asg, i_mul, mul_of hx.p hy.p (by omega), mul_of h6 hx.q (by omega), mul_of (nat_mul_lt h6 hx.q) hy.q (by omega), mul_of hx.p hy.q (by omega), mul_of hx.q hy.p (by omega), mul_of hx.s hy.s (by omega), e]
end K81

set_option Elab.async false
set_option linter.all false
set_option maxRecDepth 100000
set_option maxHeartbeats 4000000
namespace K81
open PySem L2 PV Qu
open Classical
variable {d : Nat}
/-! ### the program's order -/
theorem pp_length_is {p q s : Int} {k : Nat} (h0 : s ≠ 0) (hq : q.natAbs < 2 ^ k) (hs : s.natAbs < 2 ^ k) (hk : k ≤ 8900) : f_length [.int p, .int q, .int s] = some (false, L (mkQ d p q s)) := p_length_is h0 hq hs hk
theorem negative_is (x : Q d) : f_negative [L x] = some (false, L (-x)) := by
  unfold f_negative evDef ir_negative
  simp only [q_wipeR_1, q_wipeR_2, q_asg_1, q_asg_2, q_asg_3, q_asg_4, q_asg_5, q_asg_6, q_asg_7, q_asgR_1, q_ownedArg_1, q_ownedArgs_1, q_ownedArgs_2, q_itemsOf_1, q_itemsOf_2, q_evE_1, q_evE_2, q_evE_3, q_evE_4, q_evE_5, q_evE_6, q_evE_7, q_evE_8, q_evE_9, q_evE_10, q_evE_11, q_evE_12, q_evE_13, q_evE_14, q_evE_15, q_evE_16, q_evE_17, q_evE_18, q_evE_19, q_evE_20, q_evE_21, q_evE_22, q_evE_23, q_evE_24, q_evE_25, q_evEs_1, q_evEs_2, q_evP_1, q_evP_2, q_evC_1, q_evC_2, q_evI_1, q_evI_2, q_evRet_1, q_evS_1, q_evS_2, q_evS_3, q_evS_4, q_evS_5, q_evS_6, q_evS_7, q_evS_8, q_evS_9, q_evS_10, q_evS_11, q_evS_12, q_evS_13, q_evS_14, q_evS_15, q_evS_16, q_evS_17, q_evS_18, q_evS_19, q_evS_20, q_evS_21, q_evSs_1, q_evSs_2, q_oa_0, q_rt_0, q_oa_1, q_rt_1, q_oa_2, q_rt_2, q_oa_3, q_rt_3, q_oa_4, q_rt_4, q_oa_5, q_rt_5, q_oa_6, q_rt_6, q_oa_7, q_rt_7, q_oa_8, q_rt_8, q_oa_9, q_rt_9, q_oa_10, q_rt_10, q_oa_11, q_rt_11, q_oa_12, q_rt_12, q_oa_13, q_rt_13, q_oa_14, q_rt_14, q_oa_15, q_rt_15, q_oa_16, q_rt_16, q_oa_17, q_rt_17, q_oa_18, q_rt_18, q_oa_19, q_rt_19, q_oa_20, q_rt_20, q_oa_21, q_rt_21, q_oa_22, q_rt_22, q_oa_23, q_rt_23, q_ar_0, q_ar_1, q_ar_2, asI_i, q_less1, q_less2, q_less3, q_slot, q_rows, q_dict, q_asInt, q_listIt, q_rowR, q_ret, q_bind, q_bindn, q_map, q_mapn, q_evT, q_own, startR, List.getElem?_cons_succ, List.getElem?_cons_zero, List.set_cons_succ, List.set_cons_zero, List.map_cons, List.map_nil, List.replicate, List.length_cons, List.length_nil, List.append_eq, List.nil_append, List.cons_append, Bool.and_true, Bool.true_and, Bool.and_false, Bool.false_and, Bool.not_true, Bool.not_false, if_true, if_false, reduceCtorEq, Nat.reduceSub, Nat.reduceAdd, Nat.reduceLeDiff, Bool.false_eq_true, Bool.or_false, Bool.false_or, ite_true, ite_false, lenOk_0, lenOk_1, lenOk_2, lenOk_3, lenOk_4, lenOk_5, lenOk_6, lenOk_7, lenOk_8, i_add, i_sub, i_neg, i_asI, N_int, i_inti, i_intb, decide_true, decide_false, L_asg, L_negt]
theorem minus_is {x y : Q d} {k l : Nat} (hx : Sz k x) (hy : Sz l y) (h : k + l ≤ 8800) : f_minus [L x, L y] = some (false, L (x - y)) := by
  have e := p_plus_is hx (neg_sz hy) h
  have e2 : x + -y = x - y := by grind
  rw [e2] at e
  unfold f_minus evDef ir_minus
  simp only [q_wipeR_1, q_wipeR_2, q_asg_1, q_asg_2, q_asg_3, q_asg_4, q_asg_5, q_asg_6, q_asg_7, q_asgR_1, q_ownedArg_1, q_ownedArgs_1, q_ownedArgs_2, q_itemsOf_1, q_itemsOf_2, q_evE_1, q_evE_2, q_evE_3, q_evE_4, q_evE_5, q_evE_6, q_evE_7, q_evE_8, q_evE_9, q_evE_10, q_evE_11, q_evE_12, q_evE_13, q_evE_14, q_evE_15, q_evE_16, q_evE_17, q_evE_18, q_evE_19, q_evE_20, q_evE_21, q_evE_22, q_evE_23, q_evE_24, q_evE_25, q_evEs_1, q_evEs_2, q_evP_1, q_evP_2, q_evC_1, q_evC_2, q_evI_1, q_evI_2, q_evRet_1, q_evS_1, q_evS_2, q_evS_3, q_evS_4, q_evS_5, q_evS_6, q_evS_7, q_evS_8, q_evS_9, q_evS_10, q_evS_11, q_evS_12, q_evS_13, q_evS_14, q_evS_15, q_evS_16, q_evS_17, q_evS_18, q_evS_19, q_evS_20, q_evS_21, q_evSs_1, q_evSs_2, q_oa_0, q_rt_0, q_oa_1, q_rt_1, q_oa_2, q_rt_2, q_oa_3, q_rt_3, q_oa_4, q_rt_4, q_oa_5, q_rt_5, q_oa_6, q_rt_6, q_oa_7, q_rt_7, q_oa_8, q_rt_8, q_oa_9, q_rt_9, q_oa_10, q_rt_10, q_oa_11, q_rt_11, q_oa_12, q_rt_12, q_oa_13, q_rt_13, q_oa_14, q_rt_14, q_oa_15, q_rt_15, q_oa_16, q_rt_16, q_oa_17, q_rt_17, q_oa_18, q_rt_18, q_oa_19, q_rt_19, q_oa_20, q_rt_20, q_oa_21, q_rt_21, q_oa_22, q_rt_22, q_oa_23, q_rt_23, q_ar_0, q_ar_1, q_ar_2, asI_i, q_less1, q_less2, q_less3, q_slot, q_rows, q_dict, q_asInt, q_listIt, q_rowR, q_ret, q_bind, q_bindn, q_map, q_mapn, q_evT, q_own, startR, List.getElem?_cons_succ, List.getElem?_cons_zero, List.set_cons_succ, List.set_cons_zero, List.map_cons, List.map_nil, List.replicate, List.length_cons, List.length_nil, List.append_eq, List.nil_append, List.cons_append, Bool.and_true, Bool.true_and, Bool.and_false, Bool.false_and, Bool.not_true, Bool.not_false, if_true, if_false, reduceCtorEq, Nat.reduceSub, Nat.reduceAdd, Nat.reduceLeDiff, Bool.false_eq_true, Bool.or_false, Bool.false_or, ite_true, ite_false, lenOk_0, lenOk_1, lenOk_2, lenOk_3, lenOk_4, lenOk_5, lenOk_6, lenOk_7, lenOk_8, i_add, i_sub, i_neg, i_asI, N_int, i_inti, i_intb, decide_true, decide_false, negative_is, e]
def sg (i : Int) : Int := if 0 < i then 1 else if i < 0 then -1 else 0
theorem sgn_m1 [NSq d] (x y : Q d) : decide (sgn (x - y) = -1) = decide (x < y) := by
  rw [decide_eq_decide]
  rcases sgn_cases (x - y) with ⟨h, e⟩ | ⟨h, e⟩ | ⟨h, e⟩ <;> rw [e]
  · exact ⟨fun h => absurd h (by decide), fun g => absurd g (by grind)⟩
  · exact ⟨fun h => absurd h (by decide), fun g => absurd g (by grind)⟩
  · exact ⟨fun _ => by grind, fun _ => rfl⟩
theorem sgn_p1 [NSq d] (x y : Q d) : decide (sgn (x - y) = 1) = decide (y < x) := by
  rw [decide_eq_decide]
  rcases sgn_cases (x - y) with ⟨h, e⟩ | ⟨h, e⟩ | ⟨h, e⟩ <;> rw [e]
  · exact ⟨fun _ => by grind, fun _ => rfl⟩
  · exact ⟨fun h => absurd h (by decide), fun g => absurd g (by grind)⟩
  · exact ⟨fun h => absurd h (by decide), fun g => absurd g (by grind)⟩
theorem sgn_z [NSq d] (x y : Q d) : decide (sgn (x - y) = 0) = decide (x = y) := by
  rw [decide_eq_decide]
  rcases sgn_cases (x - y) with ⟨h, e⟩ | ⟨h, e⟩ | ⟨h, e⟩ <;> rw [e]
  · exact ⟨fun h => absurd h (by decide), fun g => absurd g (by grind)⟩
  · exact ⟨fun _ => by grind, fun _ => rfl⟩
  · exact ⟨fun h => absurd h (by decide), fun g => absurd g (by grind)⟩
end K81

set_option Elab.async false
set_option linter.all false
set_option maxRecDepth 100000
set_option maxHeartbeats 4000000
namespace K81
open PySem L2 PV Qu LX
open Classical
variable {d : Nat}
/-! ### quotients; rows of numbers -/
theorem hinv_sz [NSq d] {x : Q d} {k : Nat} (hd : d < 64) (hx0 : x ≠ 0) (hx : Sz k x) : Sz (2 * k + 7) x⁻¹ := by
  have h6 : ((d : Int)).natAbs < 2 ^ 6 := by omega
  rw [← t_inv hx0]
  refine Sz.of (nrm_int_ne hx0) (nat_lt_mono (nat_mul_lt hx.s hx.p) (by omega)) (nat_lt_mono (nat_mul_lt (a := -x.s) (by rw [Int.natAbs_neg]; exact hx.s) hx.q) (by omega)) ?_
  have := nat_add_lt (k := 2 * k + 6) (a := x.p * x.p) (b := -((d : Int) * x.q * x.q)) (nat_lt_mono (nat_mul_lt hx.p hx.p) (by omega)) (by rw [Int.natAbs_neg]; exact nat_lt_mono (nat_mul_lt (nat_mul_lt h6 hx.q) hx.q) (by omega))
  rw [← Int.sub_eq_add_neg] at this
  exact this
theorem hinverse_is [NSq d] {x : Q d} {k : Nat} (hd : d < 64) (hx0 : x ≠ 0) (hx : Sz k x) (hk : k ≤ 4000) : f_inverse [.int (d : Int), L x] = some (false, L x⁻¹) := by
  have h6 : ((d : Int)).natAbs < 2 ^ 6 := by omega
  have hns : (-x.s).natAbs < 2 ^ k := by rw [Int.natAbs_neg]; exact hx.s
  have hn : (x.p * x.p - (d : Int) * x.q * x.q).natAbs < 2 ^ (2 * k + 7) := by
    have := nat_add_lt (k := 2 * k + 6) (a := x.p * x.p) (b := -((d : Int) * x.q * x.q)) (nat_lt_mono (nat_mul_lt hx.p hx.p) (by omega)) (by rw [Int.natAbs_neg]; exact nat_lt_mono (nat_mul_lt (nat_mul_lt h6 hx.q) hx.q) (by omega))
    rw [← Int.sub_eq_add_neg] at this
    exact this
  have e := p_length_is (d := d) (p := x.s * x.p) (q := -x.s * x.q) (s := x.p * x.p - (d : Int) * x.q * x.q) (k := 2 * k + 7) (nrm_int_ne hx0) (nat_lt_mono (nat_mul_lt hns hx.q) (by omega)) hn (by omega)
  rw [t_inv hx0] at e
  unfold f_inverse evDef ir_inverse
  simp only [q_wipeR_1, q_wipeR_2, q_asg_1, q_asg_2, q_asg_3, q_asg_4, q_asg_5, q_asg_6, q_asg_7, q_asgR_1, q_ownedArg_1, q_ownedArgs_1, q_ownedArgs_2, q_itemsOf_1, q_itemsOf_2, q_evE_1, q_evE_2, q_evE_3, q_evE_4, q_evE_5, q_evE_6, q_evE_7, q_evE_8, q_evE_9, q_evE_10, q_evE_11, q_evE_12, q_evE_13, q_evE_14, q_evE_15, q_evE_16, q_evE_17, q_evE_18, q_evE_19, q_evE_20, q_evE_21, q_evE_22, q_evE_23, q_evE_24, q_evE_25, q_evEs_1, q_evEs_2, q_evP_1, q_evP_2, q_evC_1, q_evC_2, q_evI_1, q_evI_2, q_evRet_1, q_evS_1, q_evS_2, q_evS_3, q_evS_4, q_evS_5, q_evS_6, q_evS_7, q_evS_8, q_evS_9, q_evS_10, q_evS_11, q_evS_12, q_evS_13, q_evS_14, q_evS_15, q_evS_16, q_evS_17, q_evS_18, q_evS_19, q_evS_20, q_evS_21, q_evSs_1, q_evSs_2, q_oa_0, q_rt_0, q_oa_1, q_rt_1, q_oa_2, q_rt_2, q_oa_3, q_rt_3, q_oa_4, q_rt_4, q_oa_5, q_rt_5, q_oa_6, q_rt_6, q_oa_7, q_rt_7, q_oa_8, q_rt_8, q_oa_9, q_rt_9, q_oa_10, q_rt_10, q_oa_11, q_rt_11, q_oa_12, q_rt_12, q_oa_13, q_rt_13, q_oa_14, q_rt_14, q_oa_15, q_rt_15, q_oa_16, q_rt_16, q_oa_17, q_rt_17, q_oa_18, q_rt_18, q_oa_19, q_rt_19, q_oa_20, q_rt_20, q_oa_21, q_rt_21, q_oa_22, q_rt_22, q_oa_23, q_rt_23, q_ar_0, q_ar_1, q_ar_2, asI_i, q_less1, q_less2, q_less3, q_slot, q_rows, q_dict, q_asInt, q_listIt, q_rowR, q_ret, q_bind, q_bindn, q_map, q_mapn, q_evT, q_own, startR, List.getElem?_cons_succ, List.getElem?_cons_zero, List.set_cons_succ, List.set_cons_zero, List.map_cons, List.map_nil, List.replicate, List.length_cons, List.length_nil, List.append_eq, List.nil_append, List.cons_append, Bool.and_true, Bool.true_and, Bool.and_false, Bool.false_and, Bool.not_true, Bool.not_false, if_true, if_false, reduceCtorEq, Nat.reduceSub, Nat.reduceAdd, Nat.reduceLeDiff, Bool.false_eq_true, Bool.or_false, Bool.false_or, ite_true, ite_false, lenOk_0, lenOk_1, lenOk_2, lenOk_3, lenOk_4, lenOk_5, lenOk_6, lenOk_7, lenOk_8, i_add, i_sub, i_neg, i_asI, N_int, i_inti, i_intb, decide_true, decide_false, L_asg, i_mul, mul_of hx.s hx.p (by omega), mul_of hns hx.q (by omega), mul_of hx.p hx.p (by omega), mul_of h6 hx.q (by omega), mul_of (nat_mul_lt h6 hx.q) hx.q (by omega), e]
theorem hover_is [NSq d] {x y : Q d} {k l : Nat} (hd : d < 64) (hy0 : y ≠ 0) (hx : Sz k x) (hy : Sz l y) (h : k + 2 * l ≤ 8700) (hl : l ≤ 4000) : f_over [.int (d : Int), L x, L y] = some (false, L (x / y)) := by
  have e1 := hinverse_is hd hy0 hy hl
  have e2 := p_times_is hd hx (hinv_sz hd hy0 hy) (by omega)
  have e2 : f_times [.int (d : Int), L x, L y⁻¹] = some (false, L (x / y)) := e2
  unfold f_over evDef ir_over
  simp only [q_wipeR_1, q_wipeR_2, q_asg_1, q_asg_2, q_asg_3, q_asg_4, q_asg_5, q_asg_6, q_asg_7, q_asgR_1, q_ownedArg_1, q_ownedArgs_1, q_ownedArgs_2, q_itemsOf_1, q_itemsOf_2, q_evE_1, q_evE_2, q_evE_3, q_evE_4, q_evE_5, q_evE_6, q_evE_7, q_evE_8, q_evE_9, q_evE_10, q_evE_11, q_evE_12, q_evE_13, q_evE_14, q_evE_15, q_evE_16, q_evE_17, q_evE_18, q_evE_19, q_evE_20, q_evE_21, q_evE_22, q_evE_23, q_evE_24, q_evE_25, q_evEs_1, q_evEs_2, q_evP_1, q_evP_2, q_evC_1, q_evC_2, q_evI_1, q_evI_2, q_evRet_1, q_evS_1, q_evS_2, q_evS_3, q_evS_4, q_evS_5, q_evS_6, q_evS_7, q_evS_8, q_evS_9, q_evS_10, q_evS_11, q_evS_12, q_evS_13, q_evS_14, q_evS_15, q_evS_16, q_evS_17, q_evS_18, q_evS_19, q_evS_20, q_evS_21, q_evSs_1, q_evSs_2, q_oa_0, q_rt_0, q_oa_1, q_rt_1, q_oa_2, q_rt_2, q_oa_3, q_rt_3, q_oa_4, q_rt_4, q_oa_5, q_rt_5, q_oa_6, q_rt_6, q_oa_7, q_rt_7, q_oa_8, q_rt_8, q_oa_9, q_rt_9, q_oa_10, q_rt_10, q_oa_11, q_rt_11, q_oa_12, q_rt_12, q_oa_13, q_rt_13, q_oa_14, q_rt_14, q_oa_15, q_rt_15, q_oa_16, q_rt_16, q_oa_17, q_rt_17, q_oa_18, q_rt_18, q_oa_19, q_rt_19, q_oa_20, q_rt_20, q_oa_21, q_rt_21, q_oa_22, q_rt_22, q_oa_23, q_rt_23, q_ar_0, q_ar_1, q_ar_2, asI_i, q_less1, q_less2, q_less3, q_slot, q_rows, q_dict, q_asInt, q_listIt, q_rowR, q_ret, q_bind, q_bindn, q_map, q_mapn, q_evT, q_own, startR, List.getElem?_cons_succ, List.getElem?_cons_zero, List.set_cons_succ, List.set_cons_zero, List.map_cons, List.map_nil, List.replicate, List.length_cons, List.length_nil, List.append_eq, List.nil_append, List.cons_append, Bool.and_true, Bool.true_and, Bool.and_false, Bool.false_and, Bool.not_true, Bool.not_false, if_true, if_false, reduceCtorEq, Nat.reduceSub, Nat.reduceAdd, Nat.reduceLeDiff, Bool.false_eq_true, Bool.or_false, Bool.false_or, ite_true, ite_false, lenOk_0, lenOk_1, lenOk_2, lenOk_3, lenOk_4, lenOk_5, lenOk_6, lenOk_7, lenOk_8, i_add, i_sub, i_neg, i_asI, N_int, i_inti, i_intb, decide_true, decide_false, e1, e2]
theorem hix {α : Type} {en : α → PyData} {l : List α} {k : Nat} (h : k < l.length) : evIx (.list (l.map en)) (.int (k : Int)) = some (false, en l[k]) := by
  show (L2.atI (l.map en) ((k : Nat) : Int)).map _ = _
  rw [atI_N, List.getElem?_map, List.getElem?_eq_getElem h]
  rfl
theorem hlen {α : Type} {en : α → PyData} (l : List α) : evBI .len [.list (l.map en)] = some (false, .int (l.length : Nat)) := by
  show some (false, PyData.int ((l.map en).length : Nat)) = _
  rw [List.length_map]
theorem hsl (xs : List PyData) (k : Nat) : evSl (.list xs) (some (k : Int)) none = some (true, .list (xs.drop k)) := by
  show some (true, PyData.list (cutD xs (some (k : Int)) none)) = _
  unfold cutD
  rw [HT.sIx_none, HT.sIx_nat]
  rcases Nat.le_total k xs.length with h | h
  · rw [Nat.min_eq_left h, List.take_of_length_le (by rw [List.length_drop]; omega)]
  · rw [Nat.min_eq_right h, List.drop_eq_nil_of_le (Nat.le_refl _), List.drop_eq_nil_of_le h, List.take_nil]
theorem hcat (a b : List PyData) : evBin .add (.list a) (.list b) = if lenOk (a.length + b.length) = true then some (true, .list (a ++ b)) else none := Eq.trans rfl (Eq.refl _)
theorem hrange {n x : Nat} {pre suf : List Nat} {a : Nat} (h : List.range' a n = pre ++ x :: suf) : x = a + pre.length ∧ pre.length < n := by
  have hl : pre.length < (List.range' a n).length := by rw [h]; simp
  have h1 : (List.range' a n)[pre.length]? = some x := by rw [h, List.getElem?_append_right (Nat.le_refl _), Nat.sub_self]; rfl
  rw [List.length_range'] at hl
  rw [List.getElem?_eq_getElem (by rw [List.length_range']; exact hl), List.getElem_range'] at h1
  injection h1 with h1
  omega
theorem hrange0 {n x : Nat} {pre suf : List Nat} (h : List.range n = pre ++ x :: suf) : x = pre.length ∧ pre.length < n := by
  rw [List.range_eq_range'] at h
  have := hrange h
  omega
def encR (n : Nat) (f : Nat → Q d) : PyData := .list ((List.range n).map fun j => L (f j))
theorem encR_congr {n : Nat} {f g : Nat → Q d} (h : ∀ j, j < n → f j = g j) : encR n f = encR n g := by
  unfold encR
  congr 1
  exact List.map_congr_left fun j hj => by rw [h j (List.mem_range.mp hj)]
theorem ixR {n j : Nat} {f : Nat → Q d} (h : j < n) : evIx (encR n f) (.int (j : Int)) = some (false, L (f j)) := by
  have := hix (en := fun j : Nat => L (f j)) (l := List.range n) (k := j) (by rw [List.length_range]; exact h)
  rw [List.getElem_range] at this
  exact this
theorem lenR {n : Nat} {f : Nat → Q d} : evBI .len [encR n f] = some (false, .int (n : Nat)) := by
  have := hlen (en := fun j : Nat => L (f j)) (List.range n)
  rw [List.length_range] at this
  exact this
/-- rows, by number -/
def encX (m n : Nat) (A : Nat → Nat → Q d) : PyData := .list ((List.range m).map fun i => encR n (A i))
theorem encX_congr {m n : Nat} {A B : Nat → Nat → Q d} (h : ∀ i j, i < m → j < n → A i j = B i j) : encX m n A = encX m n B := by
  unfold encX
  congr 1
  exact List.map_congr_left fun i hi => encR_congr fun j hj => h i j (List.mem_range.mp hi) hj
theorem ixX {m n i : Nat} {A : Nat → Nat → Q d} (h : i < m) : evIx (encX m n A) (.int (i : Int)) = some (false, encR n (A i)) := by
  have := hix (en := fun i : Nat => encR n (A i)) (l := List.range m) (k := i) (by rw [List.length_range]; exact h)
  rw [List.getElem_range] at this
  exact this
theorem zero_L : L (0 : Q d) = .tuple [.int 0, .int 0, .int 1] := (L_int (d := d) 0).symm
variable [NSq d]
/-- the rows when k columns are taken away -/
def el (A : Nat → Nat → Q d) (k i j : Nat) : Q d := if i < k then (if j < i then 0 else schN i A 0 (j - i)) else (if j < k then 0 else schN k A (i - k) (j - k))
theorem el_zero {A : Nat → Nat → Q d} : el A 0 = A := by
  funext i j
  unfold el
  rw [if_neg (by omega), if_neg (by omega)]
  rfl
theorem el_keep {A : Nat → Nat → Q d} {k i j : Nat} (h : i ≤ k) : el A (k + 1) i j = el A k i j := by
  unfold el
  rw [if_pos (show i < k + 1 by omega)]
  by_cases c : i < k
  · rw [if_pos c]
  · have e : i = k := by omega
    subst e
    rw [if_neg c]
    by_cases c2 : j < i
    · rw [if_pos c2, if_pos c2]
    · rw [if_neg c2, if_neg c2, Nat.sub_self]
/-- a row less a multiple of the leading one -/
theorem el_step {A : Nat → Nat → Q d} {k i j : Nat} (h0 : schN k A 0 0 ≠ 0) (h : k < i) : el A (k + 1) i j = el A k i j - el A k i k / el A k k k * el A k k j := by
  have hkk : el A k k k = schN k A 0 0 := by unfold el; rw [if_neg (by omega), if_neg (by omega), Nat.sub_self]
  have hik : el A k i k = schN k A (i - k - 1 + 1) 0 := by unfold el; rw [if_neg (by omega), if_neg (by omega), Nat.sub_self, show i - k - 1 + 1 = i - k by omega]
  rw [hkk, hik]
  have hi : ¬ i < k := by omega
  by_cases c1 : j < k
  · have e1 : el A (k + 1) i j = 0 := by unfold el; rw [if_neg (by omega), if_pos (by omega)]
    have e2 : el A k i j = 0 := by unfold el; rw [if_neg hi, if_pos c1]
    have e3 : el A k k j = 0 := by unfold el; rw [if_neg (by omega), if_pos c1]
    rw [e1, e2, e3]; grind
  · by_cases c2 : j = k
    · subst c2
      have e1 : el A (j + 1) i j = 0 := by unfold el; rw [if_neg (by omega), if_pos (by omega)]
      rw [e1, hkk, show el A j i j = schN j A (i - j - 1 + 1) 0 from hik]
      grind
    · have e1 : el A (k + 1) i j = schN (k + 1) A (i - (k + 1)) (j - (k + 1)) := by unfold el; rw [if_neg (by omega), if_neg (by omega)]
      have e2 : el A k i j = schN k A (i - k - 1 + 1) (j - (k + 1) + 1) := by unfold el; rw [if_neg hi, if_neg c1, show i - k - 1 + 1 = i - k by omega, show j - (k + 1) + 1 = j - k by omega]
      have e3 : el A k k j = schN k A 0 (j - (k + 1) + 1) := by unfold el; rw [if_neg (by omega), if_neg c1, Nat.sub_self, show j - (k + 1) + 1 = j - k by omega]
      rw [e1, e2, e3, schN_succ]
      unfold sch
      rw [show i - (k + 1) = i - k - 1 by omega]
theorem el_sz {K n k i j : Nat} {A : Nat → Nat → Q d} (h : Fine K n A) (hi : i < n) (hj : j ≤ n) (hk : k ≤ n) : Sz K (el A k i j) := by
  have z0 : Sz K ((0 : Int) : Q d) := ⟨by rw [(int_rep (d := d) 0).1]; exact Nat.pow_pos (by decide), by rw [(int_rep (d := d) 0).2.1]; exact Nat.pow_pos (by decide), by
    have := (h.z1 0 0 0 (by omega) (by omega)).s
    rw [(int_rep (d := d) 0).2.2]
    have h2 := s_pos (schN 0 A 0 0)
    omega⟩
  unfold el
  split
  · split
    · exact z0
    · exact h.z1 i 0 (j - i) (by omega) (by omega)
  · split
    · exact z0
    · exact h.z1 k (i - k) (j - k) (by omega) (by omega)
/-- the program's step -/
theorem without_is {K n k : Nat} {A : Nat → Nat → Q d} (hd : d < 64) (h : Fine K n A) (hK : K ≤ 2800) (hk : k < n) (hn : n ≤ 1000) : f_without_column [.int (d : Int), encX n (n + 1) (el A k), .int (k : Int), .int (k : Int)] = some (true, encX n (n + 1) (el A (k + 1))) := by
  have p0 := ne_of_pos (h.pd.pivots hk)
  have hkk : el A k k k = schN k A 0 0 := by unfold el; rw [if_neg (by omega), if_neg (by omega), Nat.sub_self]
  have zK : ∀ i j, i < n → j ≤ n → Sz K (el A k i j) := fun i j hi hj => el_sz h hi hj (by omega)
  have lead := ixX (n := n + 1) (A := el A k) hk
  have body : ∀ i, k < i → i < n → ∀ (s1 s7 s8 : Option R) (fs : List PyData), fs.length ≤ 10000 → evSs FUEL ib_without_column_2 [sI (d : Int), s1, sI (k : Int), sI (k : Int), some (false, encR (n + 1) (el A k k)), some (true, .list fs), some (false, encR (n + 1) (el A k i)), s7, s8] =
      some (.nx [sI (d : Int), s1, sI (k : Int), sI (k : Int), some (false, encR (n + 1) (el A k k)), some (true, .list (fs ++ [encR (n + 1) (el A (k + 1) i)])), some (false, encR (n + 1) (el A k i)), sQ (el A k i k / el A k k k), s8]) := fun i hki hi s1 s7 s8 fs hfs => by
    have e1 := hover_is (x := el A k i k) (y := el A k k k) hd (by rw [hkk]; exact p0) (zK i k hi (by omega)) (zK k k hk (by omega)) (by omega) (by omega)
    have zs : Sz K (el A k i k / el A k k k) := by
      have := h.z4 k (i - k - 1) (by omega)
      have hik : el A k i k = schN k A (i - k - 1 + 1) 0 := by unfold el; rw [if_neg (by omega), if_neg (by omega), Nat.sub_self, show i - k - 1 + 1 = i - k by omega]
      rw [hkk, hik]; exact this
    have x1 := ixR (n := n + 1) (f := el A k i) (j := k) (by omega)
    have x2 := ixR (n := n + 1) (f := el A k k) (j := k) (by omega)
    have hr : evRng [.int ((n + 1 : Nat) : Int)] = some ((List.range (n + 1)).map N) := n_rng1 (n := n + 1) (by omega)
    have cmp : ∀ (b : Bool), evE ic_without_column_1 b [sI (d : Int), s1, sI (k : Int), sI (k : Int), some (false, encR (n + 1) (el A k k)), some (true, .list fs), some (false, encR (n + 1) (el A k i)), sQ (el A k i k / el A k k k), s8] = some (true, encR (n + 1) (el A (k + 1) i)) := fun b => by
      unfold ic_without_column_1
      simp only [q_wipeR_1, q_wipeR_2, q_asg_1, q_asg_2, q_asg_3, q_asg_4, q_asg_5, q_asg_6, q_asg_7, q_asgR_1, q_ownedArg_1, q_ownedArgs_1, q_ownedArgs_2, q_itemsOf_1, q_itemsOf_2, q_evE_1, q_evE_2, q_evE_3, q_evE_4, q_evE_5, q_evE_6, q_evE_7, q_evE_8, q_evE_9, q_evE_10, q_evE_11, q_evE_12, q_evE_13, q_evE_14, q_evE_15, q_evE_16, q_evE_17, q_evE_18, q_evE_19, q_evE_20, q_evE_21, q_evE_22, q_evE_23, q_evE_24, q_evE_25, q_evEs_1, q_evEs_2, q_evP_1, q_evP_2, q_evC_1, q_evC_2, q_evI_1, q_evI_2, q_evRet_1, q_evS_1, q_evS_2, q_evS_3, q_evS_4, q_evS_5, q_evS_6, q_evS_7, q_evS_8, q_evS_9, q_evS_10, q_evS_11, q_evS_12, q_evS_13, q_evS_14, q_evS_15, q_evS_16, q_evS_17, q_evS_18, q_evS_19, q_evS_20, q_evS_21, q_evSs_1, q_evSs_2, q_oa_0, q_rt_0, q_oa_1, q_rt_1, q_oa_2, q_rt_2, q_oa_3, q_rt_3, q_oa_4, q_rt_4, q_oa_5, q_rt_5, q_oa_6, q_rt_6, q_oa_7, q_rt_7, q_oa_8, q_rt_8, q_oa_9, q_rt_9, q_oa_10, q_rt_10, q_oa_11, q_rt_11, q_oa_12, q_rt_12, q_oa_13, q_rt_13, q_oa_14, q_rt_14, q_oa_15, q_rt_15, q_oa_16, q_rt_16, q_oa_17, q_rt_17, q_oa_18, q_rt_18, q_oa_19, q_rt_19, q_oa_20, q_rt_20, q_oa_21, q_rt_21, q_oa_22, q_rt_22, q_oa_23, q_rt_23, q_ar_0, q_ar_1, q_ar_2, asI_i, q_less1, q_less2, q_less3, q_slot, q_rows, q_dict, q_asInt, q_listIt, q_rowR, q_ret, q_bind, q_bindn, q_map, q_mapn, q_evT, q_own, startR, List.getElem?_cons_succ, List.getElem?_cons_zero, List.set_cons_succ, List.set_cons_zero, List.map_cons, List.map_nil, List.replicate, List.length_cons, List.length_nil, List.append_eq, List.nil_append, List.cons_append, Bool.and_true, Bool.true_and, Bool.and_false, Bool.false_and, Bool.not_true, Bool.not_false, if_true, if_false, reduceCtorEq, Nat.reduceSub, Nat.reduceAdd, Nat.reduceLeDiff, Bool.false_eq_true, Bool.or_false, Bool.false_or, ite_true, ite_false, lenOk_0, lenOk_1, lenOk_2, lenOk_3, lenOk_4, lenOk_5, lenOk_6, lenOk_7, lenOk_8, i_add, i_sub, i_neg, i_asI, N_int, i_inti, i_intb, decide_true, decide_false, lenR, hr]
      rw [compGo_map (enc := N) (en2 := L) (fun j : Nat => some (el A (k + 1) i j)), filterMap_some]
      · show some (true, PyData.list _) = some (true, encR _ _)
        unfold encR
        rw [List.map_map]
        rfl
      · intro j hj
        rw [List.mem_range] at hj
        have y1 := ixR (n := n + 1) (f := el A k i) hj
        have y2 := ixR (n := n + 1) (f := el A k k) hj
        have t1 := p_times_is hd zs (zK k j hk (by omega)) (by omega)
        have t2 := minus_is (zK i j hi (by omega)) (times_sz hd zs (zK k j hk (by omega))) (by omega)
        rw [← el_step p0 hki] at t2
        simp only [q_wipeR_1, q_wipeR_2, q_asg_1, q_asg_2, q_asg_3, q_asg_4, q_asg_5, q_asg_6, q_asg_7, q_asgR_1, q_ownedArg_1, q_ownedArgs_1, q_ownedArgs_2, q_itemsOf_1, q_itemsOf_2, q_evE_1, q_evE_2, q_evE_3, q_evE_4, q_evE_5, q_evE_6, q_evE_7, q_evE_8, q_evE_9, q_evE_10, q_evE_11, q_evE_12, q_evE_13, q_evE_14, q_evE_15, q_evE_16, q_evE_17, q_evE_18, q_evE_19, q_evE_20, q_evE_21, q_evE_22, q_evE_23, q_evE_24, q_evE_25, q_evEs_1, q_evEs_2, q_evP_1, q_evP_2, q_evC_1, q_evC_2, q_evI_1, q_evI_2, q_evRet_1, q_evS_1, q_evS_2, q_evS_3, q_evS_4, q_evS_5, q_evS_6, q_evS_7, q_evS_8, q_evS_9, q_evS_10, q_evS_11, q_evS_12, q_evS_13, q_evS_14, q_evS_15, q_evS_16, q_evS_17, q_evS_18, q_evS_19, q_evS_20, q_evS_21, q_evSs_1, q_evSs_2, q_oa_0, q_rt_0, q_oa_1, q_rt_1, q_oa_2, q_rt_2, q_oa_3, q_rt_3, q_oa_4, q_rt_4, q_oa_5, q_rt_5, q_oa_6, q_rt_6, q_oa_7, q_rt_7, q_oa_8, q_rt_8, q_oa_9, q_rt_9, q_oa_10, q_rt_10, q_oa_11, q_rt_11, q_oa_12, q_rt_12, q_oa_13, q_rt_13, q_oa_14, q_rt_14, q_oa_15, q_rt_15, q_oa_16, q_rt_16, q_oa_17, q_rt_17, q_oa_18, q_rt_18, q_oa_19, q_rt_19, q_oa_20, q_rt_20, q_oa_21, q_rt_21, q_oa_22, q_rt_22, q_oa_23, q_rt_23, q_ar_0, q_ar_1, q_ar_2, asI_i, q_less1, q_less2, q_less3, q_slot, q_rows, q_dict, q_asInt, q_listIt, q_rowR, q_ret, q_bind, q_bindn, q_map, q_mapn, q_evT, q_own, startR, List.getElem?_cons_succ, List.getElem?_cons_zero, List.set_cons_succ, List.set_cons_zero, List.map_cons, List.map_nil, List.replicate, List.length_cons, List.length_nil, List.append_eq, List.nil_append, List.cons_append, Bool.and_true, Bool.true_and, Bool.and_false, Bool.false_and, Bool.not_true, Bool.not_false, if_true, if_false, reduceCtorEq, Nat.reduceSub, Nat.reduceAdd, Nat.reduceLeDiff, Bool.false_eq_true, Bool.or_false, Bool.false_or, ite_true, ite_false, lenOk_0, lenOk_1, lenOk_2, lenOk_3, lenOk_4, lenOk_5, lenOk_6, lenOk_7, lenOk_8, i_add, i_sub, i_neg, i_asI, N_int, i_inti, i_intb, decide_true, decide_false, y1, y2, t1, t2]
    have lk : lenOk (fs.length + 1) = true := lenOk_of (by omega)
    unfold ib_without_column_2
    simp only [q_wipeR_1, q_wipeR_2, q_asg_1, q_asg_2, q_asg_3, q_asg_4, q_asg_5, q_asg_6, q_asg_7, q_asgR_1, q_ownedArg_1, q_ownedArgs_1, q_ownedArgs_2, q_itemsOf_1, q_itemsOf_2, q_evE_1, q_evE_2, q_evE_3, q_evE_4, q_evE_5, q_evE_6, q_evE_7, q_evE_8, q_evE_9, q_evE_10, q_evE_11, q_evE_12, q_evE_13, q_evE_14, q_evE_15, q_evE_16, q_evE_17, q_evE_18, q_evE_19, q_evE_20, q_evE_21, q_evE_22, q_evE_23, q_evE_24, q_evE_25, q_evEs_1, q_evEs_2, q_evP_1, q_evP_2, q_evC_1, q_evC_2, q_evI_1, q_evI_2, q_evRet_1, q_evS_1, q_evS_2, q_evS_3, q_evS_4, q_evS_5, q_evS_6, q_evS_7, q_evS_8, q_evS_9, q_evS_10, q_evS_11, q_evS_12, q_evS_13, q_evS_14, q_evS_15, q_evS_16, q_evS_17, q_evS_18, q_evS_19, q_evS_20, q_evS_21, q_evSs_1, q_evSs_2, q_oa_0, q_rt_0, q_oa_1, q_rt_1, q_oa_2, q_rt_2, q_oa_3, q_rt_3, q_oa_4, q_rt_4, q_oa_5, q_rt_5, q_oa_6, q_rt_6, q_oa_7, q_rt_7, q_oa_8, q_rt_8, q_oa_9, q_rt_9, q_oa_10, q_rt_10, q_oa_11, q_rt_11, q_oa_12, q_rt_12, q_oa_13, q_rt_13, q_oa_14, q_rt_14, q_oa_15, q_rt_15, q_oa_16, q_rt_16, q_oa_17, q_rt_17, q_oa_18, q_rt_18, q_oa_19, q_rt_19, q_oa_20, q_rt_20, q_oa_21, q_rt_21, q_oa_22, q_rt_22, q_oa_23, q_rt_23, q_ar_0, q_ar_1, q_ar_2, asI_i, q_less1, q_less2, q_less3, q_slot, q_rows, q_dict, q_asInt, q_listIt, q_rowR, q_ret, q_bind, q_bindn, q_map, q_mapn, q_evT, q_own, startR, List.getElem?_cons_succ, List.getElem?_cons_zero, List.set_cons_succ, List.set_cons_zero, List.map_cons, List.map_nil, List.replicate, List.length_cons, List.length_nil, List.append_eq, List.nil_append, List.cons_append, Bool.and_true, Bool.true_and, Bool.and_false, Bool.false_and, Bool.not_true, Bool.not_false, if_true, if_false, reduceCtorEq, Nat.reduceSub, Nat.reduceAdd, Nat.reduceLeDiff, Bool.false_eq_true, Bool.or_false, Bool.false_or, ite_true, ite_false, lenOk_0, lenOk_1, lenOk_2, lenOk_3, lenOk_4, lenOk_5, lenOk_6, lenOk_7, lenOk_8, i_add, i_sub, i_neg, i_asI, N_int, i_inti, i_intb, decide_true, decide_false, x1, x2, e1, cmp, lk]
  have hdrop : ((List.range n).map fun i => encR (n + 1) (el A k i)).drop (k + 1) = (List.range' (k + 1) (n - (k + 1))).map fun i => encR (n + 1) (el A k i) := by
    rw [← List.map_drop, List.range_eq_range', List.drop_range']
    congr 2
    omega
  have htake : ((List.range n).map fun i => encR (n + 1) (el A k i)).take (k + 1) = (List.range (k + 1)).map fun i => encR (n + 1) (el A k i) := by
    rw [← List.map_take, List.take_range, Nat.min_eq_left (by omega)]
  obtain ⟨ρ', e, s7, s8, s9, rfl⟩ := forGo_do (g := .nm 6) (f := blk FUEL ib_without_column_2) (fun i : Nat => encR (n + 1) (el A k i)) (fun pre ρ => ∃ s6 s7 s8, ρ = [sI (d : Int), some (false, encX n (n + 1) (el A k)), sI (k : Int), sI (k : Int), some (false, encR (n + 1) (el A k k)), some (true, .list (pre.map fun i => encR (n + 1) (el A (k + 1) i))), s6, s7, s8]) (l := List.range' (k + 1) (n - (k + 1)))
    (ρ := [sI (d : Int), some (false, encX n (n + 1) (el A k)), sI (k : Int), sI (k : Int), some (false, encR (n + 1) (el A k k)), some (true, .list []), none, none, none]) ⟨_, _, _, rfl⟩ (by
    rintro pre i suf ρ hi ⟨s6, s7, s8, rfl⟩
    obtain ⟨e, hl⟩ := hrange hi
    refine ⟨_, _, rfl, body i (by omega) (by omega) _ s7 s8 _ (by rw [List.length_map]; omega), some (false, encR (n + 1) (el A k i)), sQ (el A k i k / el A k k k), s8, ?_⟩
    rw [List.map_append]; rfl)
  have i1 : ((k : Int) + 1) = ((k + 1 : Nat) : Int) := by omega
  have sl1 := hsl ((List.range n).map fun i => encR (n + 1) (el A k i)) (k + 1)
  have sl2 := n_slh ((List.range n).map fun i => encR (n + 1) (el A k i)) (k + 1)
  rw [hdrop] at sl1
  rw [htake] at sl2
  have sl1 : evSl (encX n (n + 1) (el A k)) (some ((k + 1 : Nat) : Int)) none = some (true, .list ((List.range' (k + 1) (n - (k + 1))).map fun i => encR (n + 1) (el A k i))) := sl1
  have sl2 : evSl (encX n (n + 1) (el A k)) none (some ((k + 1 : Nat) : Int)) = some (true, .list ((List.range (k + 1)).map fun i => encR (n + 1) (el A k i))) := sl2
  have lk : lenOk (((List.range (k + 1)).map fun i => encR (n + 1) (el A k i)).length + ((List.range' (k + 1) (n - (k + 1))).map fun i => encR (n + 1) (el A (k + 1) i)).length) = true := lenOk_of (by rw [List.length_map, List.length_map, List.length_range, List.length_range']; omega)
  have fin : ((List.range (k + 1)).map fun i => encR (n + 1) (el A k i)) ++ ((List.range' (k + 1) (n - (k + 1))).map fun i => encR (n + 1) (el A (k + 1) i)) = (List.range n).map fun i => encR (n + 1) (el A (k + 1) i) := by
    have : (List.range (k + 1)).map (fun i => encR (n + 1) (el A k i)) = (List.range (k + 1)).map fun i => encR (n + 1) (el A (k + 1) i) := List.map_congr_left fun i hi => encR_congr fun j hj => (el_keep (by have := List.mem_range.mp hi; omega)).symm
    rw [this, ← List.map_append, List.range_eq_range', List.range_eq_range']
    congr 1
    have := List.range'_append_1 (s := 0) (m := k + 1) (n := n - (k + 1))
    rw [Nat.zero_add] at this
    rw [this]
    congr 1
    omega
  unfold f_without_column evDef ir_without_column
  simp only [q_wipeR_1, q_wipeR_2, q_asg_1, q_asg_2, q_asg_3, q_asg_4, q_asg_5, q_asg_6, q_asg_7, q_asgR_1, q_ownedArg_1, q_ownedArgs_1, q_ownedArgs_2, q_itemsOf_1, q_itemsOf_2, q_evE_1, q_evE_2, q_evE_3, q_evE_4, q_evE_5, q_evE_6, q_evE_7, q_evE_8, q_evE_9, q_evE_10, q_evE_11, q_evE_12, q_evE_13, q_evE_14, q_evE_15, q_evE_16, q_evE_17, q_evE_18, q_evE_19, q_evE_20, q_evE_21, q_evE_22, q_evE_23, q_evE_24, q_evE_25, q_evEs_1, q_evEs_2, q_evP_1, q_evP_2, q_evC_1, q_evC_2, q_evI_1, q_evI_2, q_evRet_1, q_evS_1, q_evS_2, q_evS_3, q_evS_4, q_evS_5, q_evS_6, q_evS_7, q_evS_8, q_evS_9, q_evS_10, q_evS_11, q_evS_12, q_evS_13, q_evS_14, q_evS_15, q_evS_16, q_evS_17, q_evS_18, q_evS_19, q_evS_20, q_evS_21, q_evSs_1, q_evSs_2, q_oa_0, q_rt_0, q_oa_1, q_rt_1, q_oa_2, q_rt_2, q_oa_3, q_rt_3, q_oa_4, q_rt_4, q_oa_5, q_rt_5, q_oa_6, q_rt_6, q_oa_7, q_rt_7, q_oa_8, q_rt_8, q_oa_9, q_rt_9, q_oa_10, q_rt_10, q_oa_11, q_rt_11, q_oa_12, q_rt_12, q_oa_13, q_rt_13, q_oa_14, q_rt_14, q_oa_15, q_rt_15, q_oa_16, q_rt_16, q_oa_17, q_rt_17, q_oa_18, q_rt_18, q_oa_19, q_rt_19, q_oa_20, q_rt_20, q_oa_21, q_rt_21, q_oa_22, q_rt_22, q_oa_23, q_rt_23, q_ar_0, q_ar_1, q_ar_2, asI_i, q_less1, q_less2, q_less3, q_slot, q_rows, q_dict, q_asInt, q_listIt, q_rowR, q_ret, q_bind, q_bindn, q_map, q_mapn, q_evT, q_own, startR, List.getElem?_cons_succ, List.getElem?_cons_zero, List.set_cons_succ, List.set_cons_zero, List.map_cons, List.map_nil, List.replicate, List.length_cons, List.length_nil, List.append_eq, List.nil_append, List.cons_append, Bool.and_true, Bool.true_and, Bool.and_false, Bool.false_and, Bool.not_true, Bool.not_false, if_true, if_false, reduceCtorEq, Nat.reduceSub, Nat.reduceAdd, Nat.reduceLeDiff, Bool.false_eq_true, Bool.or_false, Bool.false_or, ite_true, ite_false, lenOk_0, lenOk_1, lenOk_2, lenOk_3, lenOk_4, lenOk_5, lenOk_6, lenOk_7, lenOk_8, i_add, i_sub, i_neg, i_asI, N_int, i_inti, i_intb, decide_true, decide_false, lead, i1, sl1, e, sl2, hcat, lk, fin]
  rfl
end K81

set_option Elab.async false
set_option linter.all false
set_option maxRecDepth 100000
set_option maxHeartbeats 4000000
namespace K81
open PySem L2 PV Qu LX
open Classical
variable {d : Nat} [NSq d]
theorem rep_n (a : PyData) {n : Nat} (h : n ≤ 10000) : evBin .mul (.list [a]) (.int (n : Int)) = some (true, .list (List.replicate n a)) := by
  have e : (List.replicate ((n : Int)).toNat [a]).flatten = List.replicate n a := by
    rw [Int.toNat_natCast]
    clear h
    induction n with
    | zero => rfl
    | succ n ih => rw [List.replicate_succ, List.flatten_cons, ih, List.replicate_succ]; rfl
  have c : (decide ((n : Int) < 1000000000) && decide (-1000000000 < (n : Int)) && lenOk ([a].length * ((n : Int)).toNat)) = true := by
    rw [decide_eq_true (by omega), decide_eq_true (by omega), lenOk_of (by rw [Int.toNat_natCast]; show 1 * n ≤ _; omega)]
    rfl
  show (if (decide ((n : Int) < 1000000000) && decide (-1000000000 < (n : Int)) && lenOk ([a].length * ((n : Int)).toNat)) = true then some (true, PyData.list (List.replicate ((n : Int)).toNat [a]).flatten) else none) = _
  rw [if_pos c, e]
theorem encR_rep (n : Nat) : encR (d := d) n (fun _ => 0) = .list (List.replicate n (L (0 : Q d))) := by
  unfold encR
  congr 1
  rw [List.eq_replicate_iff]
  refine ⟨by rw [List.length_map, List.length_range], fun b hb => ?_⟩
  obtain ⟨j, hj, rfl⟩ := List.mem_map.mp hb
  rfl
def upd1 (f : Nat → Q d) (i : Nat) (x : Q d) : Nat → Q d := fun j => if j = i then x else f j
theorem setR {n i : Nat} (f : Nat → Q d) (x : Q d) : ((List.range n).map fun j => L (f j)).set i (L x) = (List.range n).map fun j => L (upd1 f i x j) := by
  apply List.ext_getElem?
  intro j
  rw [List.getElem?_set, List.getElem?_map, List.getElem?_map, List.length_map, List.length_range]
  by_cases c : i = j
  · subst c
    rw [if_pos rfl]
    by_cases h : i < n
    · rw [if_pos h, List.getElem?_range h]
      show _ = some (L (upd1 f i x i))
      unfold upd1; rw [if_pos rfl]
    · rw [if_neg h, List.getElem?_eq_none (by rw [List.length_range]; omega)]; rfl
  · rw [if_neg c]
    by_cases h : j < n
    · rw [List.getElem?_range h]
      show some (L (f j)) = some (L (upd1 f i x j))
      unfold upd1; rw [if_neg fun z => c z.symm]
    · rw [List.getElem?_eq_none (by rw [List.length_range]; omega)]; rfl
theorem putR {n i : Nat} (f : Nat → Q d) (x : Q d) (h : i < n) : putD ((List.range n).map fun j => L (f j)) (i : Int) (L x) = some ((List.range n).map fun j => L (upd1 f i x j)) := by
  have : L2.ixN ((List.range n).map fun j => L (f j)).length (i : Int) = some i := by
    unfold L2.ixN
    rw [if_pos (by omega), if_pos (by rw [List.length_map, List.length_range]; omega)]
    rfl
  show (L2.ixN ((List.range n).map fun j => L (f j)).length (i : Int)).map (fun j => ((List.range n).map fun j => L (f j)).set j (L x)) = _
  rw [this]
  show some (((List.range n).map fun j => L (f j)).set i (L x)) = _
  rw [setR]
/-- the program's solving -/
theorem solved_is {K n : Nat} {A : Nat → Nat → Q d} (hd : d < 64) (h : Fine K n A) (hK : K ≤ 2800) (hn : n ≤ 1000) : f_solved [.int (d : Int), encX n (n + 1) A, .int (n : Int)] = some (true, encR n (sol n A)) := by
  have hr : evRng [.int (n : Nat)] = some ((List.range n).map N) := n_rng1 (n := n) (by omega)
  have w0 := p_whole_is (d := d) 0
  have zc : ((0 : Int) : Q d) = 0 := rfl
  rw [zc] at w0
  -- columns taken away
  obtain ⟨ρ', e1, s4, rfl⟩ := forGo_do (g := .nm 4) (f := blk FUEL ib_solved_1) N (fun pre ρ => ∃ s4, ρ = [sI (d : Int), some (false, encX n (n + 1) A), sI (n : Int), some (false, encX n (n + 1) (el A pre.length)), s4, none, none, none]) (l := List.range n)
    (ρ := [sI (d : Int), some (false, encX n (n + 1) A), sI (n : Int), some (false, encX n (n + 1) A), none, none, none, none]) ⟨none, by rw [List.length_nil, el_zero]⟩ (by
    rintro pre k suf ρ hk ⟨s4, rfl⟩
    obtain ⟨e, hl⟩ := hrange0 hk
    subst e
    have e2 := without_is hd h hK hl hn
    refine ⟨_, _, rfl, ?_, sI (pre.length : Int), by rw [List.length_append, List.length_singleton]⟩
    show evSs FUEL ib_solved_1 [sI (d : Int), some (false, encX n (n + 1) A), sI (n : Int), some (false, encX n (n + 1) (el A pre.length)), sI (pre.length : Int), none, none, none] = _
    unfold ib_solved_1
    simp only [q_wipeR_1, q_wipeR_2, q_asg_1, q_asg_2, q_asg_3, q_asg_4, q_asg_5, q_asg_6, q_asg_7, q_asgR_1, q_ownedArg_1, q_ownedArgs_1, q_ownedArgs_2, q_itemsOf_1, q_itemsOf_2, q_evE_1, q_evE_2, q_evE_3, q_evE_4, q_evE_5, q_evE_6, q_evE_7, q_evE_8, q_evE_9, q_evE_10, q_evE_11, q_evE_12, q_evE_13, q_evE_14, q_evE_15, q_evE_16, q_evE_17, q_evE_18, q_evE_19, q_evE_20, q_evE_21, q_evE_22, q_evE_23, q_evE_24, q_evE_25, q_evEs_1, q_evEs_2, q_evP_1, q_evP_2, q_evC_1, q_evC_2, q_evI_1, q_evI_2, q_evRet_1, q_evS_1, q_evS_2, q_evS_3, q_evS_4, q_evS_5, q_evS_6, q_evS_7, q_evS_8, q_evS_9, q_evS_10, q_evS_11, q_evS_12, q_evS_13, q_evS_14, q_evS_15, q_evS_16, q_evS_17, q_evS_18, q_evS_19, q_evS_20, q_evS_21, q_evSs_1, q_evSs_2, q_oa_0, q_rt_0, q_oa_1, q_rt_1, q_oa_2, q_rt_2, q_oa_3, q_rt_3, q_oa_4, q_rt_4, q_oa_5, q_rt_5, q_oa_6, q_rt_6, q_oa_7, q_rt_7, q_oa_8, q_rt_8, q_oa_9, q_rt_9, q_oa_10, q_rt_10, q_oa_11, q_rt_11, q_oa_12, q_rt_12, q_oa_13, q_rt_13, q_oa_14, q_rt_14, q_oa_15, q_rt_15, q_oa_16, q_rt_16, q_oa_17, q_rt_17, q_oa_18, q_rt_18, q_oa_19, q_rt_19, q_oa_20, q_rt_20, q_oa_21, q_rt_21, q_oa_22, q_rt_22, q_oa_23, q_rt_23, q_ar_0, q_ar_1, q_ar_2, asI_i, q_less1, q_less2, q_less3, q_slot, q_rows, q_dict, q_asInt, q_listIt, q_rowR, q_ret, q_bind, q_bindn, q_map, q_mapn, q_evT, q_own, startR, List.getElem?_cons_succ, List.getElem?_cons_zero, List.set_cons_succ, List.set_cons_zero, List.map_cons, List.map_nil, List.replicate, List.length_cons, List.length_nil, List.append_eq, List.nil_append, List.cons_append, Bool.and_true, Bool.true_and, Bool.and_false, Bool.false_and, Bool.not_true, Bool.not_false, if_true, if_false, reduceCtorEq, Nat.reduceSub, Nat.reduceAdd, Nat.reduceLeDiff, Bool.false_eq_true, Bool.or_false, Bool.false_or, ite_true, ite_false, lenOk_0, lenOk_1, lenOk_2, lenOk_3, lenOk_4, lenOk_5, lenOk_6, lenOk_7, lenOk_8, i_add, i_sub, i_neg, i_asI, N_int, i_inti, i_intb, decide_true, decide_false, e2])
  rw [List.length_range] at e1
  have rp := rep_n (L (0 : Q d)) (n := n) (by omega)
  have er := encR_rep (d := d) n
  -- the value of a place
  have body : ∀ k, k < n → ∀ (s6 s7 : Option R), ∃ s6' s7', evSs FUEL ib_solved_3 [sI (d : Int), some (false, encX n (n + 1) A), sI (n : Int), some (false, encX n (n + 1) (el A n)), sI (k : Int), some (true, encR n fun j => if k + 1 ≤ j then sol n A j else 0), s6, s7] =
      some (.nx [sI (d : Int), some (false, encX n (n + 1) A), sI (n : Int), some (false, encX n (n + 1) (el A n)), sI (k : Int), some (true, encR n fun j => if k ≤ j then sol n A j else 0), s6', s7']) := fun k hk s6 s7 => by
    have x1 := ixX (n := n + 1) (A := el A n) hk
    have x2 := ixR (n := n + 1) (f := el A n k) (j := n) (by omega)
    have eU : ∀ j, k ≤ j → el A n k j = schN k A 0 (j - k) := fun j hj => by
      unfold el; rw [if_pos hk, if_neg (by omega)]
    rw [eU n (by omega)] at x2
    have hr2 : evRng [.int ((k + 1 : Nat) : Int), .int (n : Int)] = some ((List.range' (k + 1) (n - (k + 1))).map N) := n_rng2 (a := k + 1) (b := n) (by omega) (by omega)
    have inner := forGo_do (g := .nm 7) (f := blk FUEL ib_solved_2) N (fun pre ρ => ∃ s7, ρ = [sI (d : Int), some (false, encX n (n + 1) A), sI (n : Int), some (false, encX n (n + 1) (el A n)), sI (k : Int), some (true, encR n fun j => if k + 1 ≤ j then sol n A j else 0), sQ (schN k A 0 (n - k) - sm pre.length fun j => schN k A 0 (j + 1) * sol n A (k + 1 + j)), s7]) (l := List.range' (k + 1) (n - (k + 1)))
      (ρ := [sI (d : Int), some (false, encX n (n + 1) A), sI (n : Int), some (false, encX n (n + 1) (el A n)), sI (k : Int), some (true, encR n fun j => if k + 1 ≤ j then sol n A j else 0), sQ (schN k A 0 (n - k)), s7]) ⟨s7, by
        show _ = [_, _, _, _, _, _, sQ (schN k A 0 (n - k) - 0), s7]
        rw [show schN k A 0 (n - k) - 0 = schN k A 0 (n - k) by grind]⟩ (by
      rintro pre o suf ρ ho ⟨s7, rfl⟩
      obtain ⟨e, hl⟩ := hrange ho
      subst e
      have y1 := ixR (n := n + 1) (f := el A n k) (j := k + 1 + pre.length) (by omega)
      rw [eU _ (by omega), show k + 1 + pre.length - k = pre.length + 1 by omega] at y1
      have y2 := ixR (n := n) (f := fun j => if k + 1 ≤ j then sol n A j else 0) (j := k + 1 + pre.length) (by omega)
      rw [if_pos (by omega)] at y2
      have z1 := h.z1 k 0 (pre.length + 1) (by omega) (by omega)
      have z2 := h.z2 (k + 1 + pre.length) (by omega)
      have t1 := p_times_is hd z1 z2 (by omega)
      have t2 := minus_is (h.z3 k pre.length hk (by omega)) (times_sz hd z1 z2) (by omega)
      refine ⟨_, _, rfl, ?_, sI ((k + 1 + pre.length : Nat) : Int), rfl⟩
      show evSs FUEL ib_solved_2 [sI (d : Int), some (false, encX n (n + 1) A), sI (n : Int), some (false, encX n (n + 1) (el A n)), sI (k : Int), some (true, encR n fun j => if k + 1 ≤ j then sol n A j else 0), sQ (schN k A 0 (n - k) - sm pre.length fun j => schN k A 0 (j + 1) * sol n A (k + 1 + j)), sI ((k + 1 + pre.length : Nat) : Int)] = _
      have fin : schN k A 0 (n - k) - sm (pre ++ [k + 1 + pre.length]).length (fun j => schN k A 0 (j + 1) * sol n A (k + 1 + j)) = (schN k A 0 (n - k) - sm pre.length fun j => schN k A 0 (j + 1) * sol n A (k + 1 + j)) - schN k A 0 (pre.length + 1) * sol n A (k + 1 + pre.length) := by
        rw [List.length_append, List.length_singleton, sm_last]
        grind
      rw [fin]
      unfold ib_solved_2
      have ev : encR n (fun j => if k + 1 ≤ j then sol n A j else 0) = .list ((List.range n).map fun j => L (if k + 1 ≤ j then sol n A j else 0)) := rfl
      rw [ev] at y2 ⊢
      simp only [q_wipeR_1, q_wipeR_2, q_asg_1, q_asg_2, q_asg_3, q_asg_4, q_asg_5, q_asg_6, q_asg_7, q_asgR_1, q_ownedArg_1, q_ownedArgs_1, q_ownedArgs_2, q_itemsOf_1, q_itemsOf_2, q_evE_1, q_evE_2, q_evE_3, q_evE_4, q_evE_5, q_evE_6, q_evE_7, q_evE_8, q_evE_9, q_evE_10, q_evE_11, q_evE_12, q_evE_13, q_evE_14, q_evE_15, q_evE_16, q_evE_17, q_evE_18, q_evE_19, q_evE_20, q_evE_21, q_evE_22, q_evE_23, q_evE_24, q_evE_25, q_evEs_1, q_evEs_2, q_evP_1, q_evP_2, q_evC_1, q_evC_2, q_evI_1, q_evI_2, q_evRet_1, q_evS_1, q_evS_2, q_evS_3, q_evS_4, q_evS_5, q_evS_6, q_evS_7, q_evS_8, q_evS_9, q_evS_10, q_evS_11, q_evS_12, q_evS_13, q_evS_14, q_evS_15, q_evS_16, q_evS_17, q_evS_18, q_evS_19, q_evS_20, q_evS_21, q_evSs_1, q_evSs_2, q_oa_0, q_rt_0, q_oa_1, q_rt_1, q_oa_2, q_rt_2, q_oa_3, q_rt_3, q_oa_4, q_rt_4, q_oa_5, q_rt_5, q_oa_6, q_rt_6, q_oa_7, q_rt_7, q_oa_8, q_rt_8, q_oa_9, q_rt_9, q_oa_10, q_rt_10, q_oa_11, q_rt_11, q_oa_12, q_rt_12, q_oa_13, q_rt_13, q_oa_14, q_rt_14, q_oa_15, q_rt_15, q_oa_16, q_rt_16, q_oa_17, q_rt_17, q_oa_18, q_rt_18, q_oa_19, q_rt_19, q_oa_20, q_rt_20, q_oa_21, q_rt_21, q_oa_22, q_rt_22, q_oa_23, q_rt_23, q_ar_0, q_ar_1, q_ar_2, asI_i, q_less1, q_less2, q_less3, q_slot, q_rows, q_dict, q_asInt, q_listIt, q_rowR, q_ret, q_bind, q_bindn, q_map, q_mapn, q_evT, q_own, startR, List.getElem?_cons_succ, List.getElem?_cons_zero, List.set_cons_succ, List.set_cons_zero, List.map_cons, List.map_nil, List.replicate, List.length_cons, List.length_nil, List.append_eq, List.nil_append, List.cons_append, Bool.and_true, Bool.true_and, Bool.and_false, Bool.false_and, Bool.not_true, Bool.not_false, if_true, if_false, reduceCtorEq, Nat.reduceSub, Nat.reduceAdd, Nat.reduceLeDiff, Bool.false_eq_true, Bool.or_false, Bool.false_or, ite_true, ite_false, lenOk_0, lenOk_1, lenOk_2, lenOk_3, lenOk_4, lenOk_5, lenOk_6, lenOk_7, lenOk_8, i_add, i_sub, i_neg, i_asI, N_int, i_inti, i_intb, decide_true, decide_false, x1, y1, y2, t1, t2])
    obtain ⟨ρ2, e2, s7', rfl⟩ := inner
    rw [List.length_range'] at e2
    have x3 := ixR (n := n + 1) (f := el A n k) (j := k) (by omega)
    rw [eU k (Nat.le_refl k), Nat.sub_self] at x3
    have p0 := ne_of_pos (h.pd.pivots hk)
    have e3 := hover_is hd p0 (h.z3 k (n - (k + 1)) hk (by omega)) (h.z1 k 0 0 (by omega) (by omega)) (by omega) (by omega)
    have hv := sol_row (A := A) hk
    rw [show n - k - 1 = n - (k + 1) by omega] at hv
    rw [← hv] at e3
    have pt := putR (fun j => if k + 1 ≤ j then sol n A j else 0) (sol n A k) hk
    have i1 : ((k : Int) + 1) = ((k + 1 : Nat) : Int) := by omega
    refine ⟨sQ (schN k A 0 (n - k) - sm (n - (k + 1)) fun j => schN k A 0 (j + 1) * sol n A (k + 1 + j)), s7', ?_⟩
    unfold ib_solved_3
    have ev : encR n (fun j => if k + 1 ≤ j then sol n A j else 0) = .list ((List.range n).map fun j => L (if k + 1 ≤ j then sol n A j else 0)) := rfl
    have ev2 : encR n (fun j => if k ≤ j then sol n A j else 0) = .list ((List.range n).map fun j => L (upd1 (fun j => if k + 1 ≤ j then sol n A j else 0) k (sol n A k) j)) := by
      show encR n _ = encR n _
      refine encR_congr fun j hj => ?_
      show (if k ≤ j then sol n A j else 0) = (if j = k then sol n A k else if k + 1 ≤ j then sol n A j else 0)
      by_cases c : j = k
      · rw [if_pos (by omega), if_pos c, c]
      · rw [if_neg c]
        by_cases c2 : k ≤ j
        · rw [if_pos c2, if_pos (by omega)]
        · rw [if_neg c2, if_neg (by omega)]
    rw [ev] at e2
    rw [ev, ev2]
    simp only [q_wipeR_1, q_wipeR_2, q_asg_1, q_asg_2, q_asg_3, q_asg_4, q_asg_5, q_asg_6, q_asg_7, q_asgR_1, q_ownedArg_1, q_ownedArgs_1, q_ownedArgs_2, q_itemsOf_1, q_itemsOf_2, q_evE_1, q_evE_2, q_evE_3, q_evE_4, q_evE_5, q_evE_6, q_evE_7, q_evE_8, q_evE_9, q_evE_10, q_evE_11, q_evE_12, q_evE_13, q_evE_14, q_evE_15, q_evE_16, q_evE_17, q_evE_18, q_evE_19, q_evE_20, q_evE_21, q_evE_22, q_evE_23, q_evE_24, q_evE_25, q_evEs_1, q_evEs_2, q_evP_1, q_evP_2, q_evC_1, q_evC_2, q_evI_1, q_evI_2, q_evRet_1, q_evS_1, q_evS_2, q_evS_3, q_evS_4, q_evS_5, q_evS_6, q_evS_7, q_evS_8, q_evS_9, q_evS_10, q_evS_11, q_evS_12, q_evS_13, q_evS_14, q_evS_15, q_evS_16, q_evS_17, q_evS_18, q_evS_19, q_evS_20, q_evS_21, q_evSs_1, q_evSs_2, q_oa_0, q_rt_0, q_oa_1, q_rt_1, q_oa_2, q_rt_2, q_oa_3, q_rt_3, q_oa_4, q_rt_4, q_oa_5, q_rt_5, q_oa_6, q_rt_6, q_oa_7, q_rt_7, q_oa_8, q_rt_8, q_oa_9, q_rt_9, q_oa_10, q_rt_10, q_oa_11, q_rt_11, q_oa_12, q_rt_12, q_oa_13, q_rt_13, q_oa_14, q_rt_14, q_oa_15, q_rt_15, q_oa_16, q_rt_16, q_oa_17, q_rt_17, q_oa_18, q_rt_18, q_oa_19, q_rt_19, q_oa_20, q_rt_20, q_oa_21, q_rt_21, q_oa_22, q_rt_22, q_oa_23, q_rt_23, q_ar_0, q_ar_1, q_ar_2, asI_i, q_less1, q_less2, q_less3, q_slot, q_rows, q_dict, q_asInt, q_listIt, q_rowR, q_ret, q_bind, q_bindn, q_map, q_mapn, q_evT, q_own, startR, List.getElem?_cons_succ, List.getElem?_cons_zero, List.set_cons_succ, List.set_cons_zero, List.map_cons, List.map_nil, List.replicate, List.length_cons, List.length_nil, List.append_eq, List.nil_append, List.cons_append, Bool.and_true, Bool.true_and, Bool.and_false, Bool.false_and, Bool.not_true, Bool.not_false, if_true, if_false, reduceCtorEq, Nat.reduceSub, Nat.reduceAdd, Nat.reduceLeDiff, Bool.false_eq_true, Bool.or_false, Bool.false_or, ite_true, ite_false, lenOk_0, lenOk_1, lenOk_2, lenOk_3, lenOk_4, lenOk_5, lenOk_6, lenOk_7, lenOk_8, i_add, i_sub, i_neg, i_asI, N_int, i_inti, i_intb, decide_true, decide_false, x1, x2, i1, hr2, e2, x3, e3, pt]
  have st0 : encR n (fun j => if n - ([] : List Nat).length ≤ j then sol n A j else 0) = .list (List.replicate n (L (0 : Q d))) := (encR_congr fun j hj => if_neg (by rw [List.length_nil]; omega)).trans er
  -- from behind
  have back := forGo_do (g := .nm 4) (f := blk FUEL ib_solved_3) N (fun pre ρ => ∃ s4 s6 s7, ρ = [sI (d : Int), some (false, encX n (n + 1) A), sI (n : Int), some (false, encX n (n + 1) (el A n)), s4, some (true, encR n fun j => if n - pre.length ≤ j then sol n A j else 0), s6, s7]) (l := (List.range n).reverse)
    (ρ := [sI (d : Int), some (false, encX n (n + 1) A), sI (n : Int), some (false, encX n (n + 1) (el A n)), s4, some (true, .list (List.replicate n (L (0 : Q d)))), none, none]) ⟨s4, none, none, by rw [st0]⟩ (by
    rintro pre k suf ρ hk ⟨s4, s6, s7, rfl⟩
    have hk2 : List.range n = suf.reverse ++ k :: pre.reverse := by
      have := congrArg List.reverse hk
      rw [List.reverse_reverse, List.reverse_append, List.reverse_cons, List.append_assoc] at this
      exact this
    have hk3 := hrange0 hk2
    rw [List.length_reverse] at hk3
    have hlen := congrArg List.length hk
    rw [List.length_reverse, List.length_range, List.length_append, List.length_cons] at hlen
    have e9 : n - pre.length = k + 1 := by omega
    rw [e9]
    obtain ⟨s6', s7', e⟩ := body k (by omega) s6 s7
    refine ⟨_, _, rfl, e, sI (k : Int), s6', s7', ?_⟩
    rw [List.length_append, List.length_singleton, show n - (pre.length + 1) = k by omega])
  obtain ⟨ρ3, e3, s4', s6', s7', rfl⟩ := back
  rw [List.length_reverse, List.length_range, Nat.sub_self] at e3
  have ef : encR n (fun j => if 0 ≤ j then sol n A j else 0) = encR n (sol n A) := encR_congr fun j hj => if_pos (Nat.zero_le j)
  rw [ef] at e3
  have rv : ((List.range n).map N).reverse = (List.range n).reverse.map N := (List.map_reverse).symm
  unfold f_solved evDef ir_solved
  simp only [q_wipeR_1, q_wipeR_2, q_asg_1, q_asg_2, q_asg_3, q_asg_4, q_asg_5, q_asg_6, q_asg_7, q_asgR_1, q_ownedArg_1, q_ownedArgs_1, q_ownedArgs_2, q_itemsOf_1, q_itemsOf_2, q_evE_1, q_evE_2, q_evE_3, q_evE_4, q_evE_5, q_evE_6, q_evE_7, q_evE_8, q_evE_9, q_evE_10, q_evE_11, q_evE_12, q_evE_13, q_evE_14, q_evE_15, q_evE_16, q_evE_17, q_evE_18, q_evE_19, q_evE_20, q_evE_21, q_evE_22, q_evE_23, q_evE_24, q_evE_25, q_evEs_1, q_evEs_2, q_evP_1, q_evP_2, q_evC_1, q_evC_2, q_evI_1, q_evI_2, q_evRet_1, q_evS_1, q_evS_2, q_evS_3, q_evS_4, q_evS_5, q_evS_6, q_evS_7, q_evS_8, q_evS_9, q_evS_10, q_evS_11, q_evS_12, q_evS_13, q_evS_14, q_evS_15, q_evS_16, q_evS_17, q_evS_18, q_evS_19, q_evS_20, q_evS_21, q_evSs_1, q_evSs_2, q_oa_0, q_rt_0, q_oa_1, q_rt_1, q_oa_2, q_rt_2, q_oa_3, q_rt_3, q_oa_4, q_rt_4, q_oa_5, q_rt_5, q_oa_6, q_rt_6, q_oa_7, q_rt_7, q_oa_8, q_rt_8, q_oa_9, q_rt_9, q_oa_10, q_rt_10, q_oa_11, q_rt_11, q_oa_12, q_rt_12, q_oa_13, q_rt_13, q_oa_14, q_rt_14, q_oa_15, q_rt_15, q_oa_16, q_rt_16, q_oa_17, q_rt_17, q_oa_18, q_rt_18, q_oa_19, q_rt_19, q_oa_20, q_rt_20, q_oa_21, q_rt_21, q_oa_22, q_rt_22, q_oa_23, q_rt_23, q_ar_0, q_ar_1, q_ar_2, asI_i, q_less1, q_less2, q_less3, q_slot, q_rows, q_dict, q_asInt, q_listIt, q_rowR, q_ret, q_bind, q_bindn, q_map, q_mapn, q_evT, q_own, startR, List.getElem?_cons_succ, List.getElem?_cons_zero, List.set_cons_succ, List.set_cons_zero, List.map_cons, List.map_nil, List.replicate, List.length_cons, List.length_nil, List.append_eq, List.nil_append, List.cons_append, Bool.and_true, Bool.true_and, Bool.and_false, Bool.false_and, Bool.not_true, Bool.not_false, if_true, if_false, reduceCtorEq, Nat.reduceSub, Nat.reduceAdd, Nat.reduceLeDiff, Bool.false_eq_true, Bool.or_false, Bool.false_or, ite_true, ite_false, lenOk_0, lenOk_1, lenOk_2, lenOk_3, lenOk_4, lenOk_5, lenOk_6, lenOk_7, lenOk_8, i_add, i_sub, i_neg, i_asI, N_int, i_inti, i_intb, decide_true, decide_false, hr, e1, w0, rp, rv, e3]
  have ev : encR n (sol n A) = .list ((List.range n).map fun j => L (sol n A j)) := rfl
  rw [ev]
  simp only [q_wipeR_1, q_wipeR_2, q_asg_1, q_asg_2, q_asg_3, q_asg_4, q_asg_5, q_asg_6, q_asg_7, q_asgR_1, q_ownedArg_1, q_ownedArgs_1, q_ownedArgs_2, q_itemsOf_1, q_itemsOf_2, q_evE_1, q_evE_2, q_evE_3, q_evE_4, q_evE_5, q_evE_6, q_evE_7, q_evE_8, q_evE_9, q_evE_10, q_evE_11, q_evE_12, q_evE_13, q_evE_14, q_evE_15, q_evE_16, q_evE_17, q_evE_18, q_evE_19, q_evE_20, q_evE_21, q_evE_22, q_evE_23, q_evE_24, q_evE_25, q_evEs_1, q_evEs_2, q_evP_1, q_evP_2, q_evC_1, q_evC_2, q_evI_1, q_evI_2, q_evRet_1, q_evS_1, q_evS_2, q_evS_3, q_evS_4, q_evS_5, q_evS_6, q_evS_7, q_evS_8, q_evS_9, q_evS_10, q_evS_11, q_evS_12, q_evS_13, q_evS_14, q_evS_15, q_evS_16, q_evS_17, q_evS_18, q_evS_19, q_evS_20, q_evS_21, q_evSs_1, q_evSs_2, q_oa_0, q_rt_0, q_oa_1, q_rt_1, q_oa_2, q_rt_2, q_oa_3, q_rt_3, q_oa_4, q_rt_4, q_oa_5, q_rt_5, q_oa_6, q_rt_6, q_oa_7, q_rt_7, q_oa_8, q_rt_8, q_oa_9, q_rt_9, q_oa_10, q_rt_10, q_oa_11, q_rt_11, q_oa_12, q_rt_12, q_oa_13, q_rt_13, q_oa_14, q_rt_14, q_oa_15, q_rt_15, q_oa_16, q_rt_16, q_oa_17, q_rt_17, q_oa_18, q_rt_18, q_oa_19, q_rt_19, q_oa_20, q_rt_20, q_oa_21, q_rt_21, q_oa_22, q_rt_22, q_oa_23, q_rt_23, q_ar_0, q_ar_1, q_ar_2, asI_i, q_less1, q_less2, q_less3, q_slot, q_rows, q_dict, q_asInt, q_listIt, q_rowR, q_ret, q_bind, q_bindn, q_map, q_mapn, q_evT, q_own, startR, List.getElem?_cons_succ, List.getElem?_cons_zero, List.set_cons_succ, List.set_cons_zero, List.map_cons, List.map_nil, List.replicate, List.length_cons, List.length_nil, List.append_eq, List.nil_append, List.cons_append, Bool.and_true, Bool.true_and, Bool.and_false, Bool.false_and, Bool.not_true, Bool.not_false, if_true, if_false, reduceCtorEq, Nat.reduceSub, Nat.reduceAdd, Nat.reduceLeDiff, Bool.false_eq_true, Bool.or_false, Bool.false_or, ite_true, ite_false, lenOk_0, lenOk_1, lenOk_2, lenOk_3, lenOk_4, lenOk_5, lenOk_6, lenOk_7, lenOk_8, i_add, i_sub, i_neg, i_asI, N_int, i_inti, i_intb, decide_true, decide_false]
end K81

set_option Elab.async false
set_option linter.all false
set_option maxRecDepth 100000
set_option maxHeartbeats 4000000
namespace K81
open PySem L2 PV Qu LX
open Classical
variable {d : Nat} [NSq d]
/-- rows in a slot of own lists -/
abbrev dpX (c : Nat) (R : Nat → Nat → Q d) : Option PV.R := some (true, .tuple ((List.range c).map fun i => encR c (R i)))
theorem rowX {c i : Nat} {R : Nat → Nat → Q d} (h : i < c) : ((List.range c).map fun i => encR c (R i))[i]? = some (encR c (R i)) := by
  rw [List.getElem?_map, List.getElem?_range h]; rfl
theorem ixN_lt {c i : Nat} (h : i < c) : L2.ixN c (i : Int) = some i := by
  unfold L2.ixN
  rw [if_pos (by omega), if_pos (by omega)]
  rfl
theorem setX {c a b : Nat} {R : Nat → Nat → Q d} {x : Q d} (ha : a < c) : ((List.range c).map fun i => encR c (R i)).set a (encR c (upd1 (R a) b x)) = (List.range c).map fun i => encR c (upd2 R a b x i) := by
  apply List.ext_getElem?
  intro j
  rw [List.getElem?_set, List.getElem?_map, List.getElem?_map, List.length_map, List.length_range]
  by_cases e : a = j
  · subst e
    rw [if_pos rfl, if_pos ha, List.getElem?_range ha]
    show _ = some (encR c (upd2 R a b x a))
    congr 2
    funext k
    unfold upd2 upd1
    rw [if_pos rfl]
  · rw [if_neg e]
    by_cases h : j < c
    · rw [List.getElem?_range h]
      show some (encR c (R j)) = some (encR c (upd2 R a b x j))
      congr 2
      funext k
      unfold upd2
      rw [if_neg fun z => e z.symm]
    · rw [List.getElem?_eq_none (by rw [List.length_range]; omega)]; rfl
theorem rd2 {c a b : Nat} {R : Nat → Nat → Q d} {ρ : Sl} {i : Nat} {ea eb : E} {bb : Bool} (hs : ρ[i]? = some (dpX c R)) (h1 : evE ea true ρ = some (false, .int (a : Int))) (h2 : evE eb true ρ = some (false, .int (b : Int))) (ha : a < c) (hb : b < c) : evE (.ix2 i ea eb) bb ρ = some (false, L (R a b)) := by
  have s : slot ρ i = some (true, .tuple ((List.range c).map fun i => encR c (R i))) := by rw [q_slot, hs]
  have hat : L2.atI ((List.range c).map fun i => encR c (R i)) (a : Int) = some (encR c (R a)) := by
    unfold L2.atI
    rw [List.length_map, List.length_range, ixN_lt ha]
    exact rowX ha
  rw [q_evE_21, s, q_bind, q_rows, q_bind, h1, q_bind, q_asInt, q_bind, h2, q_bind, hat, q_bind]
  exact ixR hb
theorem wr2 {n c a b : Nat} {R : Nat → Nat → Q d} {x : Q d} {ρ : Sl} {i : Nat} {ea eb e : E} (hs : ρ[i]? = some (dpX c R)) (he : evE e false ρ = some (false, L x)) (h1 : evE ea true ρ = some (false, .int (a : Int))) (h2 : evE eb true ρ = some (false, .int (b : Int))) (ha : a < c) (hb : b < c) :
    evS n (.put2 i ea eb e) ρ = some (.nx (ρ.set i (dpX c (upd2 R a b x)))) := by
  have s : slot ρ i = some (true, .tuple ((List.range c).map fun i => encR c (R i))) := by rw [q_slot, hs]
  have p := putR (R a) x hb
  rw [evS, he, q_bind, s, q_bind, q_rows, q_bind, h1, q_bind, q_asInt, q_bind]
  rw [List.length_map, List.length_range, ixN_lt ha, q_bind, h2, q_bind, q_asInt, q_bind, rowX ha, q_bind]
  show Option.bind (listIt (.list ((List.range c).map fun j => L (R a j)))) _ = _
  rw [q_listIt, q_bind, p]
  show some (Out.nx (ρ.set i (some (true, .tuple (((List.range c).map fun i => encR c (R i)).set a (encR c (upd1 (R a) b x))))))) = _
  rw [setX ha]
def encPt (t : Nt d) : PyData := .tuple [.int (t.1 : Int), .int (t.2.1 : Int)]
theorem upd2_dn {S M B c a b : Nat} {R : Nat → Nat → Q d} {s : Q d} (hR : ∀ i j, i < c → j < c → Dn S M (R i j)) (hs : Dn S B s) (ha : a < c) (hb : b < c) : (∀ i j, i < c → j < c → Dn S (M + B) (upd2 R a b (R a b + s) i j)) ∧ ∀ i j, i < c → j < c → Dn S (M + B) (upd2 R a b (R a b - s) i j) := by
  constructor
  · intro i j hi hj
    unfold upd2
    split
    · split
      · exact (hR a b ha hb).add hs
      · exact (hR i j hi hj).mono (by omega)
    · exact (hR i j hi hj).mono (by omega)
  · intro i j hi hj
    unfold upd2
    split
    · split
      · exact (hR a b ha hb).sub hs
      · exact (hR i j hi hj).mono (by omega)
    · exact (hR i j hi hj).mono (by omega)
theorem tile_dn {S M B c : Nat} {R : Nat → Nat → Q d} {t : Nt d} (hR : ∀ i j, i < c → j < c → Dn S M (R i j)) (hs : Dn S B t.2.2) (h1 : t.1 < c) (h2 : t.2.1 < c) : ∀ i j, i < c → j < c → Dn S (M + B + B + B + B) (tileM R t i j) := by
  have a1 := (upd2_dn hR hs h1 h1).1
  have a2 := (upd2_dn a1 hs h1 h2).2
  have a3 := (upd2_dn a2 hs h2 h2).1
  exact (upd2_dn a3 hs h2 h1).2
theorem net_dn {S B c : Nat} : ∀ (ts : List (Nt d)) (R : Nat → Nat → Q d) (M : Nat), (∀ t ∈ ts, t.1 < c ∧ t.2.1 < c ∧ Dn S B t.2.2) → (∀ i j, i < c → j < c → Dn S M (R i j)) → ∀ i j, i < c → j < c → Dn S (M + 4 * ts.length * B) (ts.foldl tileM R i j)
  | [], R, M, _, hR => fun i j hi hj => by
    rw [List.foldl_nil]
    exact (hR i j hi hj).mono (by omega)
  | t :: ts, R, M, h, hR => fun i j hi hj => by
    obtain ⟨h1, h2, h3⟩ := h t List.mem_cons_self
    rw [List.foldl_cons]
    refine (net_dn ts _ _ (fun u hu => h u (List.mem_cons_of_mem _ hu)) (tile_dn hR h3 h1 h2) i j hi hj).mono (Nat.le_of_eq ?_)
    rw [List.length_cons, Nat.mul_add, Nat.add_mul]
    omega
/-- the program's rows for a net -/
theorem equations_is {S B c K : Nat} {ts : List (Nt d)} (hS0 : 0 < S) (h : ∀ t ∈ ts, t.1 < c ∧ t.2.1 < c ∧ Dn S B t.2.2) (hS : S < 2 ^ K) (hB : (4 * ts.length + 4) * B < 2 ^ K) (hK : K ≤ 4000) (hc : c ≤ 1000) (hn : ts.length ≤ 1000) :
    f_equations_of [.int (d : Int), .int (c : Int), .list (ts.map encPt), .list (ts.map fun t => L t.2.2)] = some (true, encX c c (netM ts)) := by
  have w0 := p_whole_is (d := d) 0
  have zc : ((0 : Int) : Q d) = 0 := rfl
  rw [zc] at w0
  have hr : evRng [.int (c : Int)] = some ((List.range c).map N) := n_rng1 (n := c) (by omega)
  have hlenT : evBI .len [.list (ts.map encPt)] = some (false, .int (ts.length : Nat)) := hlen ts
  have hr2 : evRng [.int (ts.length : Nat)] = some ((List.range ts.length).map N) := n_rng1 (n := ts.length) (by omega)
  have rp := rep_n (L (0 : Q d)) (n := c) (by omega)
  have er := encR_rep (d := d) c
  -- one entry changed
  have sz : ∀ {M : Nat} {x : Q d}, M ≤ (4 * ts.length + 4) * B → Dn S M x → Sz K x := fun {M x} hM hx => hx.sz hS0 hS (by omega)
  have one : ∀ (R : Nat → Nat → Q d) (M a b : Nat) (s : Q d) (s0 s1 s2 s3 s6 s7 s8 : Option PV.R), (∀ i j, i < c → j < c → Dn S M (R i j)) → M + B ≤ (4 * ts.length + 4) * B → Dn S B s → a < c → b < c →
      evSs FUEL ib_equations_of_1 [s0, s1, s2, s3, dpX c R, sI (a : Int), s6, s7, s8, sQ s, sI (b : Int)] = some (.nx [s0, s1, s2, s3, dpX c (upd2 (upd2 R a a (R a a + s)) a b (upd2 R a a (R a a + s) a b - s)), sI (a : Int), s6, s7, s8, sQ s, sI (b : Int)]) := fun R M a b s s0 s1 s2 s3 s6 s7 s8 hR hM hs ha hb => by
    have v5 : ∀ (r : Option PV.R) bb, evE (.v 5) bb [s0, s1, s2, s3, r, sI (a : Int), s6, s7, s8, sQ s, sI (b : Int)] = some (false, .int (a : Int)) := fun r bb => by cases bb <;> simp only [q_wipeR_1, q_wipeR_2, q_asg_1, q_asg_2, q_asg_3, q_asg_4, q_asg_5, q_asg_6, q_asg_7, q_asgR_1, q_ownedArg_1, q_ownedArgs_1, q_ownedArgs_2, q_itemsOf_1, q_itemsOf_2, q_evE_1, q_evE_2, q_evE_3, q_evE_4, q_evE_5, q_evE_6, q_evE_7, q_evE_8, q_evE_9, q_evE_10, q_evE_11, q_evE_12, q_evE_13, q_evE_14, q_evE_15, q_evE_16, q_evE_17, q_evE_18, q_evE_19, q_evE_20, q_evE_21, q_evE_22, q_evE_23, q_evE_24, q_evE_25, q_evEs_1, q_evEs_2, q_evP_1, q_evP_2, q_evC_1, q_evC_2, q_evI_1, q_evI_2, q_evRet_1, q_evS_1, q_evS_2, q_evS_3, q_evS_4, q_evS_5, q_evS_6, q_evS_7, q_evS_8, q_evS_9, q_evS_10, q_evS_11, q_evS_12, q_evS_13, q_evS_14, q_evS_15, q_evS_16, q_evS_17, q_evS_18, q_evS_19, q_evS_20, q_evS_21, q_evSs_1, q_evSs_2, q_oa_0, q_rt_0, q_oa_1, q_rt_1, q_oa_2, q_rt_2, q_oa_3, q_rt_3, q_oa_4, q_rt_4, q_oa_5, q_rt_5, q_oa_6, q_rt_6, q_oa_7, q_rt_7, q_oa_8, q_rt_8, q_oa_9, q_rt_9, q_oa_10, q_rt_10, q_oa_11, q_rt_11, q_oa_12, q_rt_12, q_oa_13, q_rt_13, q_oa_14, q_rt_14, q_oa_15, q_rt_15, q_oa_16, q_rt_16, q_oa_17, q_rt_17, q_oa_18, q_rt_18, q_oa_19, q_rt_19, q_oa_20, q_rt_20, q_oa_21, q_rt_21, q_oa_22, q_rt_22, q_oa_23, q_rt_23, q_ar_0, q_ar_1, q_ar_2, asI_i, q_less1, q_less2, q_less3, q_slot, q_rows, q_dict, q_asInt, q_listIt, q_rowR, q_ret, q_bind, q_bindn, q_map, q_mapn, q_evT, q_own, startR, List.getElem?_cons_succ, List.getElem?_cons_zero, List.set_cons_succ, List.set_cons_zero, List.map_cons, List.map_nil, List.replicate, List.length_cons, List.length_nil, List.append_eq, List.nil_append, List.cons_append, Bool.and_true, Bool.true_and, Bool.and_false, Bool.false_and, Bool.not_true, Bool.not_false, if_true, if_false, reduceCtorEq, Nat.reduceSub, Nat.reduceAdd, Nat.reduceLeDiff, Bool.false_eq_true, Bool.or_false, Bool.false_or, ite_true, ite_false, lenOk_0, lenOk_1, lenOk_2, lenOk_3, lenOk_4, lenOk_5, lenOk_6, lenOk_7, lenOk_8, i_add, i_sub, i_neg, i_asI, N_int, i_inti, i_intb, decide_true, decide_false]
    have v10 : ∀ (r : Option PV.R) bb, evE (.v 10) bb [s0, s1, s2, s3, r, sI (a : Int), s6, s7, s8, sQ s, sI (b : Int)] = some (false, .int (b : Int)) := fun r bb => by cases bb <;> simp only [q_wipeR_1, q_wipeR_2, q_asg_1, q_asg_2, q_asg_3, q_asg_4, q_asg_5, q_asg_6, q_asg_7, q_asgR_1, q_ownedArg_1, q_ownedArgs_1, q_ownedArgs_2, q_itemsOf_1, q_itemsOf_2, q_evE_1, q_evE_2, q_evE_3, q_evE_4, q_evE_5, q_evE_6, q_evE_7, q_evE_8, q_evE_9, q_evE_10, q_evE_11, q_evE_12, q_evE_13, q_evE_14, q_evE_15, q_evE_16, q_evE_17, q_evE_18, q_evE_19, q_evE_20, q_evE_21, q_evE_22, q_evE_23, q_evE_24, q_evE_25, q_evEs_1, q_evEs_2, q_evP_1, q_evP_2, q_evC_1, q_evC_2, q_evI_1, q_evI_2, q_evRet_1, q_evS_1, q_evS_2, q_evS_3, q_evS_4, q_evS_5, q_evS_6, q_evS_7, q_evS_8, q_evS_9, q_evS_10, q_evS_11, q_evS_12, q_evS_13, q_evS_14, q_evS_15, q_evS_16, q_evS_17, q_evS_18, q_evS_19, q_evS_20, q_evS_21, q_evSs_1, q_evSs_2, q_oa_0, q_rt_0, q_oa_1, q_rt_1, q_oa_2, q_rt_2, q_oa_3, q_rt_3, q_oa_4, q_rt_4, q_oa_5, q_rt_5, q_oa_6, q_rt_6, q_oa_7, q_rt_7, q_oa_8, q_rt_8, q_oa_9, q_rt_9, q_oa_10, q_rt_10, q_oa_11, q_rt_11, q_oa_12, q_rt_12, q_oa_13, q_rt_13, q_oa_14, q_rt_14, q_oa_15, q_rt_15, q_oa_16, q_rt_16, q_oa_17, q_rt_17, q_oa_18, q_rt_18, q_oa_19, q_rt_19, q_oa_20, q_rt_20, q_oa_21, q_rt_21, q_oa_22, q_rt_22, q_oa_23, q_rt_23, q_ar_0, q_ar_1, q_ar_2, asI_i, q_less1, q_less2, q_less3, q_slot, q_rows, q_dict, q_asInt, q_listIt, q_rowR, q_ret, q_bind, q_bindn, q_map, q_mapn, q_evT, q_own, startR, List.getElem?_cons_succ, List.getElem?_cons_zero, List.set_cons_succ, List.set_cons_zero, List.map_cons, List.map_nil, List.replicate, List.length_cons, List.length_nil, List.append_eq, List.nil_append, List.cons_append, Bool.and_true, Bool.true_and, Bool.and_false, Bool.false_and, Bool.not_true, Bool.not_false, if_true, if_false, reduceCtorEq, Nat.reduceSub, Nat.reduceAdd, Nat.reduceLeDiff, Bool.false_eq_true, Bool.or_false, Bool.false_or, ite_true, ite_false, lenOk_0, lenOk_1, lenOk_2, lenOk_3, lenOk_4, lenOk_5, lenOk_6, lenOk_7, lenOk_8, i_add, i_sub, i_neg, i_asI, N_int, i_inti, i_intb, decide_true, decide_false]
    have e1 := p_plus_is (sz (by omega) (hR a a ha ha)) (sz (M := B) (by omega) hs) (by omega)
    have r1 := rd2 (R := R) (ρ := [s0, s1, s2, s3, dpX c R, sI (a : Int), s6, s7, s8, sQ s, sI (b : Int)]) (i := 4) (bb := false) rfl (v5 _ true) (v5 _ true) ha ha
    have c1 : evE (.call f_plus (.cons (.ix2 4 (.v 5) (.v 5)) (.cons (.v 9) .nil))) false [s0, s1, s2, s3, dpX c R, sI (a : Int), s6, s7, s8, sQ s, sI (b : Int)] = some (false, L (R a a + s)) := by
      simp only [q_wipeR_1, q_wipeR_2, q_asg_1, q_asg_2, q_asg_3, q_asg_4, q_asg_5, q_asg_6, q_asg_7, q_asgR_1, q_ownedArg_1, q_ownedArgs_1, q_ownedArgs_2, q_itemsOf_1, q_itemsOf_2, q_evE_1, q_evE_2, q_evE_3, q_evE_4, q_evE_5, q_evE_6, q_evE_7, q_evE_8, q_evE_9, q_evE_10, q_evE_11, q_evE_12, q_evE_13, q_evE_14, q_evE_15, q_evE_16, q_evE_17, q_evE_18, q_evE_19, q_evE_20, q_evE_21, q_evE_22, q_evE_23, q_evE_24, q_evE_25, q_evEs_1, q_evEs_2, q_evP_1, q_evP_2, q_evC_1, q_evC_2, q_evI_1, q_evI_2, q_evRet_1, q_evS_1, q_evS_2, q_evS_3, q_evS_4, q_evS_5, q_evS_6, q_evS_7, q_evS_8, q_evS_9, q_evS_10, q_evS_11, q_evS_12, q_evS_13, q_evS_14, q_evS_15, q_evS_16, q_evS_17, q_evS_18, q_evS_19, q_evS_20, q_evS_21, q_evSs_1, q_evSs_2, q_oa_0, q_rt_0, q_oa_1, q_rt_1, q_oa_2, q_rt_2, q_oa_3, q_rt_3, q_oa_4, q_rt_4, q_oa_5, q_rt_5, q_oa_6, q_rt_6, q_oa_7, q_rt_7, q_oa_8, q_rt_8, q_oa_9, q_rt_9, q_oa_10, q_rt_10, q_oa_11, q_rt_11, q_oa_12, q_rt_12, q_oa_13, q_rt_13, q_oa_14, q_rt_14, q_oa_15, q_rt_15, q_oa_16, q_rt_16, q_oa_17, q_rt_17, q_oa_18, q_rt_18, q_oa_19, q_rt_19, q_oa_20, q_rt_20, q_oa_21, q_rt_21, q_oa_22, q_rt_22, q_oa_23, q_rt_23, q_ar_0, q_ar_1, q_ar_2, asI_i, q_less1, q_less2, q_less3, q_slot, q_rows, q_dict, q_asInt, q_listIt, q_rowR, q_ret, q_bind, q_bindn, q_map, q_mapn, q_evT, q_own, startR, List.getElem?_cons_succ, List.getElem?_cons_zero, List.set_cons_succ, List.set_cons_zero, List.map_cons, List.map_nil, List.replicate, List.length_cons, List.length_nil, List.append_eq, List.nil_append, List.cons_append, Bool.and_true, Bool.true_and, Bool.and_false, Bool.false_and, Bool.not_true, Bool.not_false, if_true, if_false, reduceCtorEq, Nat.reduceSub, Nat.reduceAdd, Nat.reduceLeDiff, Bool.false_eq_true, Bool.or_false, Bool.false_or, ite_true, ite_false, lenOk_0, lenOk_1, lenOk_2, lenOk_3, lenOk_4, lenOk_5, lenOk_6, lenOk_7, lenOk_8, i_add, i_sub, i_neg, i_asI, N_int, i_inti, i_intb, decide_true, decide_false, r1, e1]
    have p1 := wr2 (n := FUEL) (R := R) (x := R a a + s) (ρ := [s0, s1, s2, s3, dpX c R, sI (a : Int), s6, s7, s8, sQ s, sI (b : Int)]) (i := 4) rfl c1 (v5 _ true) (v5 _ true) ha ha
    have hR1 := (upd2_dn hR hs ha ha).1
    generalize upd2 R a a (R a a + s) = R1 at *
    have e2 := minus_is (sz (by omega) (hR1 a b ha hb)) (sz (M := B) (by omega) hs) (by omega)
    have r2 := rd2 (R := R1) (ρ := [s0, s1, s2, s3, dpX c R1, sI (a : Int), s6, s7, s8, sQ s, sI (b : Int)]) (i := 4) (bb := false) rfl (v5 _ true) (v10 _ true) ha hb
    have c2 : evE (.call f_minus (.cons (.ix2 4 (.v 5) (.v 10)) (.cons (.v 9) .nil))) false [s0, s1, s2, s3, dpX c R1, sI (a : Int), s6, s7, s8, sQ s, sI (b : Int)] = some (false, L (R1 a b - s)) := by
      simp only [q_wipeR_1, q_wipeR_2, q_asg_1, q_asg_2, q_asg_3, q_asg_4, q_asg_5, q_asg_6, q_asg_7, q_asgR_1, q_ownedArg_1, q_ownedArgs_1, q_ownedArgs_2, q_itemsOf_1, q_itemsOf_2, q_evE_1, q_evE_2, q_evE_3, q_evE_4, q_evE_5, q_evE_6, q_evE_7, q_evE_8, q_evE_9, q_evE_10, q_evE_11, q_evE_12, q_evE_13, q_evE_14, q_evE_15, q_evE_16, q_evE_17, q_evE_18, q_evE_19, q_evE_20, q_evE_21, q_evE_22, q_evE_23, q_evE_24, q_evE_25, q_evEs_1, q_evEs_2, q_evP_1, q_evP_2, q_evC_1, q_evC_2, q_evI_1, q_evI_2, q_evRet_1, q_evS_1, q_evS_2, q_evS_3, q_evS_4, q_evS_5, q_evS_6, q_evS_7, q_evS_8, q_evS_9, q_evS_10, q_evS_11, q_evS_12, q_evS_13, q_evS_14, q_evS_15, q_evS_16, q_evS_17, q_evS_18, q_evS_19, q_evS_20, q_evS_21, q_evSs_1, q_evSs_2, q_oa_0, q_rt_0, q_oa_1, q_rt_1, q_oa_2, q_rt_2, q_oa_3, q_rt_3, q_oa_4, q_rt_4, q_oa_5, q_rt_5, q_oa_6, q_rt_6, q_oa_7, q_rt_7, q_oa_8, q_rt_8, q_oa_9, q_rt_9, q_oa_10, q_rt_10, q_oa_11, q_rt_11, q_oa_12, q_rt_12, q_oa_13, q_rt_13, q_oa_14, q_rt_14, q_oa_15, q_rt_15, q_oa_16, q_rt_16, q_oa_17, q_rt_17, q_oa_18, q_rt_18, q_oa_19, q_rt_19, q_oa_20, q_rt_20, q_oa_21, q_rt_21, q_oa_22, q_rt_22, q_oa_23, q_rt_23, q_ar_0, q_ar_1, q_ar_2, asI_i, q_less1, q_less2, q_less3, q_slot, q_rows, q_dict, q_asInt, q_listIt, q_rowR, q_ret, q_bind, q_bindn, q_map, q_mapn, q_evT, q_own, startR, List.getElem?_cons_succ, List.getElem?_cons_zero, List.set_cons_succ, List.set_cons_zero, List.map_cons, List.map_nil, List.replicate, List.length_cons, List.length_nil, List.append_eq, List.nil_append, List.cons_append, Bool.and_true, Bool.true_and, Bool.and_false, Bool.false_and, Bool.not_true, Bool.not_false, if_true, if_false, reduceCtorEq, Nat.reduceSub, Nat.reduceAdd, Nat.reduceLeDiff, Bool.false_eq_true, Bool.or_false, Bool.false_or, ite_true, ite_false, lenOk_0, lenOk_1, lenOk_2, lenOk_3, lenOk_4, lenOk_5, lenOk_6, lenOk_7, lenOk_8, i_add, i_sub, i_neg, i_asI, N_int, i_inti, i_intb, decide_true, decide_false, r2, e2]
    have p2 := wr2 (n := FUEL) (R := R1) (x := R1 a b - s) (ρ := [s0, s1, s2, s3, dpX c R1, sI (a : Int), s6, s7, s8, sQ s, sI (b : Int)]) (i := 4) rfl c2 (v5 _ true) (v10 _ true) ha hb
    unfold ib_equations_of_1
    rw [evSs, p1]
    show evSs FUEL _ [s0, s1, s2, s3, dpX c R1, sI (a : Int), s6, s7, s8, sQ s, sI (b : Int)] = _
    rw [evSs, p2]
    rfl
  -- all tiles
  have main := forGo_do (g := .nm 6) (f := blk FUEL ib_equations_of_2) N (fun pre ρ => ∃ s5 s6 s7 s8 s9 s10, ρ = [sI (d : Int), sI (c : Int), some (false, .list (ts.map encPt)), some (false, .list (ts.map fun t => L t.2.2)), dpX c (netM (ts.take pre.length)), s5, s6, s7, s8, s9, s10]) (l := List.range ts.length)
    (ρ := [sI (d : Int), sI (c : Int), some (false, .list (ts.map encPt)), some (false, .list (ts.map fun t => L t.2.2)), dpX c (fun _ _ => 0), none, none, none, none, none, none]) ⟨_, _, _, _, _, _, rfl⟩ (by
    rintro pre k suf ρ hk ⟨s5, s6, s7, s8, s9, s10, rfl⟩
    obtain ⟨e, hl⟩ := hrange0 hk
    subst e
    have x1 := hix (en := encPt (d := d)) hl
    have x2 := hix (en := fun t : Nt d => L t.2.2) hl
    obtain ⟨h1, h2, h3⟩ := h ts[pre.length] (List.getElem_mem hl)
    have tk : ts.take (pre.length + 1) = ts.take pre.length ++ [ts[pre.length]] := by rw [List.take_succ, List.getElem?_eq_getElem hl]; rfl
    have hN : netM (ts.take (pre.length + 1)) = tileM (netM (ts.take pre.length)) ts[pre.length] := by
      unfold netM
      rw [tk, List.foldl_append]; rfl
    have hR : ∀ i j, i < c → j < c → Dn S (4 * pre.length * B) (netM (ts.take pre.length) i j) := fun i j hi hj => by
      have := net_dn (S := S) (B := B) (c := c) (ts.take pre.length) (fun _ _ => 0) 0 (fun u hu => h u (List.mem_of_mem_take hu)) (fun _ _ _ _ => Dn.zero) i j hi hj
      rw [List.length_take, Nat.min_eq_left (by omega), Nat.zero_add] at this
      exact this
    have hM : 4 * pre.length * B + 4 * B ≤ (4 * ts.length + 4) * B := by
      rw [← Nat.add_mul]
      exact Nat.mul_le_mul_right B (by omega)
    generalize netM (ts.take pre.length) = R at *
    generalize ts[pre.length] = t at *
    refine ⟨_, _, rfl, ?_, sI (t.2.1 : Int), sI (pre.length : Int), sI (t.1 : Int), sI (t.2.1 : Int), sQ t.2.2, sI (t.1 : Int), by rw [List.length_append, List.length_singleton, hN]⟩
    show evSs FUEL ib_equations_of_2 [sI (d : Int), sI (c : Int), some (false, .list (ts.map encPt)), some (false, .list (ts.map fun t => L t.2.2)), dpX c R, s5, sI (pre.length : Int), s7, s8, s9, s10] = _
    have o1 := one R (4 * pre.length * B) t.1 t.2.1 t.2.2 (sI (d : Int)) (sI (c : Int)) (some (false, .list (ts.map encPt))) (some (false, .list (ts.map fun t => L t.2.2))) (sI (pre.length : Int)) (sI (t.1 : Int)) (sI (t.2.1 : Int)) hR (by omega) h3 h1 h2
    have a1 := (upd2_dn hR h3 h1 h1).1
    have a2 := (upd2_dn a1 h3 h1 h2).2
    have et : tileM R t = upd2 (upd2 (upd2 (upd2 R t.1 t.1 (R t.1 t.1 + t.2.2)) t.1 t.2.1 (upd2 R t.1 t.1 (R t.1 t.1 + t.2.2) t.1 t.2.1 - t.2.2)) t.2.1 t.2.1 (upd2 (upd2 R t.1 t.1 (R t.1 t.1 + t.2.2)) t.1 t.2.1 (upd2 R t.1 t.1 (R t.1 t.1 + t.2.2) t.1 t.2.1 - t.2.2) t.2.1 t.2.1 + t.2.2)) t.2.1 t.1 (upd2 (upd2 (upd2 R t.1 t.1 (R t.1 t.1 + t.2.2)) t.1 t.2.1 (upd2 R t.1 t.1 (R t.1 t.1 + t.2.2) t.1 t.2.1 - t.2.2)) t.2.1 t.2.1 (upd2 (upd2 R t.1 t.1 (R t.1 t.1 + t.2.2)) t.1 t.2.1 (upd2 R t.1 t.1 (R t.1 t.1 + t.2.2) t.1 t.2.1 - t.2.2) t.2.1 t.2.1 + t.2.2) t.2.1 t.1 - t.2.2) := rfl
    rw [et]
    generalize upd2 (upd2 R t.1 t.1 (R t.1 t.1 + t.2.2)) t.1 t.2.1 (upd2 R t.1 t.1 (R t.1 t.1 + t.2.2) t.1 t.2.1 - t.2.2) = R2 at *
    have o2 := one R2 (4 * pre.length * B + B + B) t.2.1 t.1 t.2.2 (sI (d : Int)) (sI (c : Int)) (some (false, .list (ts.map encPt))) (some (false, .list (ts.map fun t => L t.2.2))) (sI (pre.length : Int)) (sI (t.1 : Int)) (sI (t.2.1 : Int)) a2 (by omega) h3 h2 h1
    have ap : ∀ (g1 g2 : G) (ρ : Sl), asg (.two g1 g2) (encPt t) ρ = (asg g1 (.int (t.1 : Int)) ρ).bind fun ρ1 => asg g2 (.int (t.2.1 : Int)) ρ1 := fun g1 g2 ρ => Eq.trans rfl (Eq.refl _)
    unfold ib_equations_of_2
    simp only [q_wipeR_1, q_wipeR_2, q_asg_1, q_asg_2, q_asg_3, q_asg_4, q_asg_5, q_asg_6, q_asg_7, q_asgR_1, q_ownedArg_1, q_ownedArgs_1, q_ownedArgs_2, q_itemsOf_1, q_itemsOf_2, q_evE_1, q_evE_2, q_evE_3, q_evE_4, q_evE_5, q_evE_6, q_evE_7, q_evE_8, q_evE_9, q_evE_10, q_evE_11, q_evE_12, q_evE_13, q_evE_14, q_evE_15, q_evE_16, q_evE_17, q_evE_18, q_evE_19, q_evE_20, q_evE_21, q_evE_22, q_evE_23, q_evE_24, q_evE_25, q_evEs_1, q_evEs_2, q_evP_1, q_evP_2, q_evC_1, q_evC_2, q_evI_1, q_evI_2, q_evRet_1, q_evS_1, q_evS_2, q_evS_3, q_evS_4, q_evS_5, q_evS_6, q_evS_7, q_evS_8, q_evS_9, q_evS_10, q_evS_11, q_evS_12, q_evS_13, q_evS_14, q_evS_15, q_evS_16, q_evS_17, q_evS_18, q_evS_19, q_evS_20, q_evS_21, q_evSs_1, q_evSs_2, q_oa_0, q_rt_0, q_oa_1, q_rt_1, q_oa_2, q_rt_2, q_oa_3, q_rt_3, q_oa_4, q_rt_4, q_oa_5, q_rt_5, q_oa_6, q_rt_6, q_oa_7, q_rt_7, q_oa_8, q_rt_8, q_oa_9, q_rt_9, q_oa_10, q_rt_10, q_oa_11, q_rt_11, q_oa_12, q_rt_12, q_oa_13, q_rt_13, q_oa_14, q_rt_14, q_oa_15, q_rt_15, q_oa_16, q_rt_16, q_oa_17, q_rt_17, q_oa_18, q_rt_18, q_oa_19, q_rt_19, q_oa_20, q_rt_20, q_oa_21, q_rt_21, q_oa_22, q_rt_22, q_oa_23, q_rt_23, q_ar_0, q_ar_1, q_ar_2, asI_i, q_less1, q_less2, q_less3, q_slot, q_rows, q_dict, q_asInt, q_listIt, q_rowR, q_ret, q_bind, q_bindn, q_map, q_mapn, q_evT, q_own, startR, List.getElem?_cons_succ, List.getElem?_cons_zero, List.set_cons_succ, List.set_cons_zero, List.map_cons, List.map_nil, List.replicate, List.length_cons, List.length_nil, List.append_eq, List.nil_append, List.cons_append, Bool.and_true, Bool.true_and, Bool.and_false, Bool.false_and, Bool.not_true, Bool.not_false, if_true, if_false, reduceCtorEq, Nat.reduceSub, Nat.reduceAdd, Nat.reduceLeDiff, Bool.false_eq_true, Bool.or_false, Bool.false_or, ite_true, ite_false, lenOk_0, lenOk_1, lenOk_2, lenOk_3, lenOk_4, lenOk_5, lenOk_6, lenOk_7, lenOk_8, i_add, i_sub, i_neg, i_asI, N_int, i_inti, i_intb, decide_true, decide_false, x1, ap, x2, q_fg2, q_fg1, q_blk, o1, o2])
  obtain ⟨ρ', e1, s5, s6, s7, s8, s9, s10, rfl⟩ := main
  rw [List.length_range, List.take_length] at e1
  have st0 : (List.range c).map (fun i => encR c ((fun _ _ => 0 : Nat → Nat → Q d) i)) = (List.range c).map fun _ => PyData.list (List.replicate c (L (0 : Q d))) := List.map_congr_left fun i _ => er
  have e1' := e1
  have dp0 : dpX c (fun _ _ => (0 : Q d)) = some (true, .tuple ((List.range c).map fun _ => PyData.list (List.replicate c (L (0 : Q d))))) := by rw [← st0]
  rw [dp0] at e1
  have nd : evS FUEL (.newD 4 [5] (.nm 5) (.rng (.cons (.v 1) .nil)) (.bin .mul (.lst (.cons (.call f_whole (.cons (.c (.int 0)) .nil)) .nil)) (.v 1))) [sI (d : Int), sI (c : Int), some (false, .list (ts.map encPt)), some (false, .list (ts.map fun t => L t.2.2)), none, none, none, none, none, none, none] =
      some (.nx [sI (d : Int), sI (c : Int), some (false, .list (ts.map encPt)), some (false, .list (ts.map fun t => L t.2.2)), some (true, .tuple ((List.range c).map fun _ => PyData.list (List.replicate c (L (0 : Q d))))), none, none, none, none, none, none]) := by
    simp only [q_wipeR_1, q_wipeR_2, q_asg_1, q_asg_2, q_asg_3, q_asg_4, q_asg_5, q_asg_6, q_asg_7, q_asgR_1, q_ownedArg_1, q_ownedArgs_1, q_ownedArgs_2, q_itemsOf_1, q_itemsOf_2, q_evE_1, q_evE_2, q_evE_3, q_evE_4, q_evE_5, q_evE_6, q_evE_7, q_evE_8, q_evE_9, q_evE_10, q_evE_11, q_evE_12, q_evE_13, q_evE_14, q_evE_15, q_evE_16, q_evE_17, q_evE_18, q_evE_19, q_evE_20, q_evE_21, q_evE_22, q_evE_23, q_evE_24, q_evE_25, q_evEs_1, q_evEs_2, q_evP_1, q_evP_2, q_evC_1, q_evC_2, q_evI_1, q_evI_2, q_evRet_1, q_evS_1, q_evS_2, q_evS_3, q_evS_4, q_evS_5, q_evS_6, q_evS_7, q_evS_8, q_evS_9, q_evS_10, q_evS_11, q_evS_12, q_evS_13, q_evS_14, q_evS_15, q_evS_16, q_evS_17, q_evS_18, q_evS_19, q_evS_20, q_evS_21, q_evSs_1, q_evSs_2, q_oa_0, q_rt_0, q_oa_1, q_rt_1, q_oa_2, q_rt_2, q_oa_3, q_rt_3, q_oa_4, q_rt_4, q_oa_5, q_rt_5, q_oa_6, q_rt_6, q_oa_7, q_rt_7, q_oa_8, q_rt_8, q_oa_9, q_rt_9, q_oa_10, q_rt_10, q_oa_11, q_rt_11, q_oa_12, q_rt_12, q_oa_13, q_rt_13, q_oa_14, q_rt_14, q_oa_15, q_rt_15, q_oa_16, q_rt_16, q_oa_17, q_rt_17, q_oa_18, q_rt_18, q_oa_19, q_rt_19, q_oa_20, q_rt_20, q_oa_21, q_rt_21, q_oa_22, q_rt_22, q_oa_23, q_rt_23, q_ar_0, q_ar_1, q_ar_2, asI_i, q_less1, q_less2, q_less3, q_slot, q_rows, q_dict, q_asInt, q_listIt, q_rowR, q_ret, q_bind, q_bindn, q_map, q_mapn, q_evT, q_own, startR, List.getElem?_cons_succ, List.getElem?_cons_zero, List.set_cons_succ, List.set_cons_zero, List.map_cons, List.map_nil, List.replicate, List.length_cons, List.length_nil, List.append_eq, List.nil_append, List.cons_append, Bool.and_true, Bool.true_and, Bool.and_false, Bool.false_and, Bool.not_true, Bool.not_false, if_true, if_false, reduceCtorEq, Nat.reduceSub, Nat.reduceAdd, Nat.reduceLeDiff, Bool.false_eq_true, Bool.or_false, Bool.false_or, ite_true, ite_false, lenOk_0, lenOk_1, lenOk_2, lenOk_3, lenOk_4, lenOk_5, lenOk_6, lenOk_7, lenOk_8, i_add, i_sub, i_neg, i_asI, N_int, i_inti, i_intb, decide_true, decide_false, hr]
    rw [compGo_map (enc := N) (en2 := fun _ : Nat => PyData.list (List.replicate c (L (0 : Q d)))) (fun i : Nat => some i), filterMap_some]
    · simp only [q_wipeR_1, q_wipeR_2, q_asg_1, q_asg_2, q_asg_3, q_asg_4, q_asg_5, q_asg_6, q_asg_7, q_asgR_1, q_ownedArg_1, q_ownedArgs_1, q_ownedArgs_2, q_itemsOf_1, q_itemsOf_2, q_evE_1, q_evE_2, q_evE_3, q_evE_4, q_evE_5, q_evE_6, q_evE_7, q_evE_8, q_evE_9, q_evE_10, q_evE_11, q_evE_12, q_evE_13, q_evE_14, q_evE_15, q_evE_16, q_evE_17, q_evE_18, q_evE_19, q_evE_20, q_evE_21, q_evE_22, q_evE_23, q_evE_24, q_evE_25, q_evEs_1, q_evEs_2, q_evP_1, q_evP_2, q_evC_1, q_evC_2, q_evI_1, q_evI_2, q_evRet_1, q_evS_1, q_evS_2, q_evS_3, q_evS_4, q_evS_5, q_evS_6, q_evS_7, q_evS_8, q_evS_9, q_evS_10, q_evS_11, q_evS_12, q_evS_13, q_evS_14, q_evS_15, q_evS_16, q_evS_17, q_evS_18, q_evS_19, q_evS_20, q_evS_21, q_evSs_1, q_evSs_2, q_oa_0, q_rt_0, q_oa_1, q_rt_1, q_oa_2, q_rt_2, q_oa_3, q_rt_3, q_oa_4, q_rt_4, q_oa_5, q_rt_5, q_oa_6, q_rt_6, q_oa_7, q_rt_7, q_oa_8, q_rt_8, q_oa_9, q_rt_9, q_oa_10, q_rt_10, q_oa_11, q_rt_11, q_oa_12, q_rt_12, q_oa_13, q_rt_13, q_oa_14, q_rt_14, q_oa_15, q_rt_15, q_oa_16, q_rt_16, q_oa_17, q_rt_17, q_oa_18, q_rt_18, q_oa_19, q_rt_19, q_oa_20, q_rt_20, q_oa_21, q_rt_21, q_oa_22, q_rt_22, q_oa_23, q_rt_23, q_ar_0, q_ar_1, q_ar_2, asI_i, q_less1, q_less2, q_less3, q_slot, q_rows, q_dict, q_asInt, q_listIt, q_rowR, q_ret, q_bind, q_bindn, q_map, q_mapn, q_evT, q_own, startR, List.getElem?_cons_succ, List.getElem?_cons_zero, List.set_cons_succ, List.set_cons_zero, List.map_cons, List.map_nil, List.replicate, List.length_cons, List.length_nil, List.append_eq, List.nil_append, List.cons_append, Bool.and_true, Bool.true_and, Bool.and_false, Bool.false_and, Bool.not_true, Bool.not_false, if_true, if_false, reduceCtorEq, Nat.reduceSub, Nat.reduceAdd, Nat.reduceLeDiff, Bool.false_eq_true, Bool.or_false, Bool.false_or, ite_true, ite_false, lenOk_0, lenOk_1, lenOk_2, lenOk_3, lenOk_4, lenOk_5, lenOk_6, lenOk_7, lenOk_8, i_add, i_sub, i_neg, i_asI, N_int, i_inti, i_intb, decide_true, decide_false, List.map_id']
    · intro i hi
      simp only [q_wipeR_1, q_wipeR_2, q_asg_1, q_asg_2, q_asg_3, q_asg_4, q_asg_5, q_asg_6, q_asg_7, q_asgR_1, q_ownedArg_1, q_ownedArgs_1, q_ownedArgs_2, q_itemsOf_1, q_itemsOf_2, q_evE_1, q_evE_2, q_evE_3, q_evE_4, q_evE_5, q_evE_6, q_evE_7, q_evE_8, q_evE_9, q_evE_10, q_evE_11, q_evE_12, q_evE_13, q_evE_14, q_evE_15, q_evE_16, q_evE_17, q_evE_18, q_evE_19, q_evE_20, q_evE_21, q_evE_22, q_evE_23, q_evE_24, q_evE_25, q_evEs_1, q_evEs_2, q_evP_1, q_evP_2, q_evC_1, q_evC_2, q_evI_1, q_evI_2, q_evRet_1, q_evS_1, q_evS_2, q_evS_3, q_evS_4, q_evS_5, q_evS_6, q_evS_7, q_evS_8, q_evS_9, q_evS_10, q_evS_11, q_evS_12, q_evS_13, q_evS_14, q_evS_15, q_evS_16, q_evS_17, q_evS_18, q_evS_19, q_evS_20, q_evS_21, q_evSs_1, q_evSs_2, q_oa_0, q_rt_0, q_oa_1, q_rt_1, q_oa_2, q_rt_2, q_oa_3, q_rt_3, q_oa_4, q_rt_4, q_oa_5, q_rt_5, q_oa_6, q_rt_6, q_oa_7, q_rt_7, q_oa_8, q_rt_8, q_oa_9, q_rt_9, q_oa_10, q_rt_10, q_oa_11, q_rt_11, q_oa_12, q_rt_12, q_oa_13, q_rt_13, q_oa_14, q_rt_14, q_oa_15, q_rt_15, q_oa_16, q_rt_16, q_oa_17, q_rt_17, q_oa_18, q_rt_18, q_oa_19, q_rt_19, q_oa_20, q_rt_20, q_oa_21, q_rt_21, q_oa_22, q_rt_22, q_oa_23, q_rt_23, q_ar_0, q_ar_1, q_ar_2, asI_i, q_less1, q_less2, q_less3, q_slot, q_rows, q_dict, q_asInt, q_listIt, q_rowR, q_ret, q_bind, q_bindn, q_map, q_mapn, q_evT, q_own, startR, List.getElem?_cons_succ, List.getElem?_cons_zero, List.set_cons_succ, List.set_cons_zero, List.map_cons, List.map_nil, List.replicate, List.length_cons, List.length_nil, List.append_eq, List.nil_append, List.cons_append, Bool.and_true, Bool.true_and, Bool.and_false, Bool.false_and, Bool.not_true, Bool.not_false, if_true, if_false, reduceCtorEq, Nat.reduceSub, Nat.reduceAdd, Nat.reduceLeDiff, Bool.false_eq_true, Bool.or_false, Bool.false_or, ite_true, ite_false, lenOk_0, lenOk_1, lenOk_2, lenOk_3, lenOk_4, lenOk_5, lenOk_6, lenOk_7, lenOk_8, i_add, i_sub, i_neg, i_asI, N_int, i_inti, i_intb, decide_true, decide_false, w0, rp]
  unfold f_equations_of evDef ir_equations_of
  simp only [q_wipeR_1, q_wipeR_2, q_asg_1, q_asg_2, q_asg_3, q_asg_4, q_asg_5, q_asg_6, q_asg_7, q_asgR_1, q_ownedArg_1, q_ownedArgs_1, q_ownedArgs_2, q_itemsOf_1, q_itemsOf_2, q_evE_1, q_evE_2, q_evE_3, q_evE_4, q_evE_5, q_evE_6, q_evE_7, q_evE_8, q_evE_9, q_evE_10, q_evE_11, q_evE_12, q_evE_13, q_evE_14, q_evE_15, q_evE_16, q_evE_17, q_evE_18, q_evE_19, q_evE_20, q_evE_21, q_evE_22, q_evE_23, q_evE_24, q_evE_25, q_evEs_1, q_evEs_2, q_evP_1, q_evP_2, q_evC_1, q_evC_2, q_evI_1, q_evI_2, q_evRet_1, q_evS_1, q_evS_2, q_evS_3, q_evS_4, q_evS_5, q_evS_6, q_evS_7, q_evS_8, q_evS_9, q_evS_10, q_evS_11, q_evS_12, q_evS_13, q_evS_14, q_evS_15, q_evS_16, q_evS_17, q_evS_18, q_evS_19, q_evS_20, q_evS_21, q_evSs_1, q_evSs_2, q_oa_0, q_rt_0, q_oa_1, q_rt_1, q_oa_2, q_rt_2, q_oa_3, q_rt_3, q_oa_4, q_rt_4, q_oa_5, q_rt_5, q_oa_6, q_rt_6, q_oa_7, q_rt_7, q_oa_8, q_rt_8, q_oa_9, q_rt_9, q_oa_10, q_rt_10, q_oa_11, q_rt_11, q_oa_12, q_rt_12, q_oa_13, q_rt_13, q_oa_14, q_rt_14, q_oa_15, q_rt_15, q_oa_16, q_rt_16, q_oa_17, q_rt_17, q_oa_18, q_rt_18, q_oa_19, q_rt_19, q_oa_20, q_rt_20, q_oa_21, q_rt_21, q_oa_22, q_rt_22, q_oa_23, q_rt_23, q_ar_0, q_ar_1, q_ar_2, asI_i, q_less1, q_less2, q_less3, q_slot, q_rows, q_dict, q_asInt, q_listIt, q_rowR, q_ret, q_bind, q_bindn, q_map, q_mapn, q_evT, q_own, startR, List.getElem?_cons_succ, List.getElem?_cons_zero, List.set_cons_succ, List.set_cons_zero, List.map_cons, List.map_nil, List.replicate, List.length_cons, List.length_nil, List.append_eq, List.nil_append, List.cons_append, Bool.and_true, Bool.true_and, Bool.and_false, Bool.false_and, Bool.not_true, Bool.not_false, if_true, if_false, reduceCtorEq, Nat.reduceSub, Nat.reduceAdd, Nat.reduceLeDiff, Bool.false_eq_true, Bool.or_false, Bool.false_or, ite_true, ite_false, lenOk_0, lenOk_1, lenOk_2, lenOk_3, lenOk_4, lenOk_5, lenOk_6, lenOk_7, lenOk_8, i_add, i_sub, i_neg, i_asI, N_int, i_inti, i_intb, decide_true, decide_false, List.append_eq, q_evSs_2] at nd ⊢
  simp only [q_wipeR_1, q_wipeR_2, q_asg_1, q_asg_2, q_asg_3, q_asg_4, q_asg_5, q_asg_6, q_asg_7, q_asgR_1, q_ownedArg_1, q_ownedArgs_1, q_ownedArgs_2, q_itemsOf_1, q_itemsOf_2, q_evE_1, q_evE_2, q_evE_3, q_evE_4, q_evE_5, q_evE_6, q_evE_7, q_evE_8, q_evE_9, q_evE_10, q_evE_11, q_evE_12, q_evE_13, q_evE_14, q_evE_15, q_evE_16, q_evE_17, q_evE_18, q_evE_19, q_evE_20, q_evE_21, q_evE_22, q_evE_23, q_evE_24, q_evE_25, q_evEs_1, q_evEs_2, q_evP_1, q_evP_2, q_evC_1, q_evC_2, q_evI_1, q_evI_2, q_evRet_1, q_evS_1, q_evS_2, q_evS_3, q_evS_4, q_evS_5, q_evS_6, q_evS_7, q_evS_8, q_evS_9, q_evS_10, q_evS_11, q_evS_12, q_evS_13, q_evS_14, q_evS_15, q_evS_16, q_evS_17, q_evS_18, q_evS_19, q_evS_20, q_evS_21, q_evSs_1, q_evSs_2, q_oa_0, q_rt_0, q_oa_1, q_rt_1, q_oa_2, q_rt_2, q_oa_3, q_rt_3, q_oa_4, q_rt_4, q_oa_5, q_rt_5, q_oa_6, q_rt_6, q_oa_7, q_rt_7, q_oa_8, q_rt_8, q_oa_9, q_rt_9, q_oa_10, q_rt_10, q_oa_11, q_rt_11, q_oa_12, q_rt_12, q_oa_13, q_rt_13, q_oa_14, q_rt_14, q_oa_15, q_rt_15, q_oa_16, q_rt_16, q_oa_17, q_rt_17, q_oa_18, q_rt_18, q_oa_19, q_rt_19, q_oa_20, q_rt_20, q_oa_21, q_rt_21, q_oa_22, q_rt_22, q_oa_23, q_rt_23, q_ar_0, q_ar_1, q_ar_2, asI_i, q_less1, q_less2, q_less3, q_slot, q_rows, q_dict, q_asInt, q_listIt, q_rowR, q_ret, q_bind, q_bindn, q_map, q_mapn, q_evT, q_own, startR, List.getElem?_cons_succ, List.getElem?_cons_zero, List.set_cons_succ, List.set_cons_zero, List.map_cons, List.map_nil, List.replicate, List.length_cons, List.length_nil, List.append_eq, List.nil_append, List.cons_append, Bool.and_true, Bool.true_and, Bool.and_false, Bool.false_and, Bool.not_true, Bool.not_false, if_true, if_false, reduceCtorEq, Nat.reduceSub, Nat.reduceAdd, Nat.reduceLeDiff, Bool.false_eq_true, Bool.or_false, Bool.false_or, ite_true, ite_false, lenOk_0, lenOk_1, lenOk_2, lenOk_3, lenOk_4, lenOk_5, lenOk_6, lenOk_7, lenOk_8, i_add, i_sub, i_neg, i_asI, N_int, i_inti, i_intb, decide_true, decide_false, nd, hlenT, hr2, e1]
  rfl
end K81

set_option Elab.async false
set_option linter.all false
set_option maxRecDepth 100000
set_option maxHeartbeats 4000000
namespace K81
open PySem L2 PV Qu LX
open Classical
variable {d : Nat} [NSq d]
theorem encR_snoc (n : Nat) (f : Nat → Q d) : encR (n + 1) f = .list (((List.range n).map fun j => L (f j)) ++ [L (f n)]) := by
  unfold encR
  rw [List.range_succ, List.map_append]
  rfl
/-- the heights that the program tells -/
theorem heights_is {S B n K KF kt : Nat} {ts : List (Nt d)} {top : Q d} (hd : d < 64) (hS0 : 0 < S) (h : ∀ t ∈ ts, t.1 < n + 2 ∧ t.2.1 < n + 2 ∧ Dn S B t.2.2) (hS : S < 2 ^ K) (hB : (4 * ts.length + 4) * B < 2 ^ K) (hK : K ≤ 4000) (hc : n ≤ 900) (hn : ts.length ≤ 1000)
    (fine : Fine KF n (sys n ts top)) (hKF : KF ≤ 2800) (ht : Sz kt top) (hkt : kt ≤ 2000) :
    f_heights_by [.int (d : Int), .int ((n + 2 : Nat) : Int), .list (ts.map encPt), .list (ts.map fun t => L t.2.2), L top] = some (true, encR (n + 2) (hts n ts top)) := by
  have w0 := p_whole_is (d := d) 0
  have zc : ((0 : Int) : Q d) = 0 := rfl
  rw [zc] at w0
  obtain ⟨he0, he1⟩ := hts_ends (n := n) (ts := ts) (top := top)
  by_cases n0 : n = 0
  · subst n0
    have c1 : decide ((((0 + 2 : Nat)) : Int) = 2) = true := decide_eq_true (by omega)
    have ef : encR (0 + 2) (hts 0 ts top) = .list [L (0 : Q d), L top] := by
      show PyData.list [L (hts 0 ts top 0), L (hts 0 ts top 1)] = _
      rw [he0, show hts 0 ts top 1 = top from he1]
    rw [ef]
    unfold f_heights_by evDef ir_heights_by
    simp only [q_wipeR_1, q_wipeR_2, q_asg_1, q_asg_2, q_asg_3, q_asg_4, q_asg_5, q_asg_6, q_asg_7, q_asgR_1, q_ownedArg_1, q_ownedArgs_1, q_ownedArgs_2, q_itemsOf_1, q_itemsOf_2, q_evE_1, q_evE_2, q_evE_3, q_evE_4, q_evE_5, q_evE_6, q_evE_7, q_evE_8, q_evE_9, q_evE_10, q_evE_11, q_evE_12, q_evE_13, q_evE_14, q_evE_15, q_evE_16, q_evE_17, q_evE_18, q_evE_19, q_evE_20, q_evE_21, q_evE_22, q_evE_23, q_evE_24, q_evE_25, q_evEs_1, q_evEs_2, q_evP_1, q_evP_2, q_evC_1, q_evC_2, q_evI_1, q_evI_2, q_evRet_1, q_evS_1, q_evS_2, q_evS_3, q_evS_4, q_evS_5, q_evS_6, q_evS_7, q_evS_8, q_evS_9, q_evS_10, q_evS_11, q_evS_12, q_evS_13, q_evS_14, q_evS_15, q_evS_16, q_evS_17, q_evS_18, q_evS_19, q_evS_20, q_evS_21, q_evSs_1, q_evSs_2, q_oa_0, q_rt_0, q_oa_1, q_rt_1, q_oa_2, q_rt_2, q_oa_3, q_rt_3, q_oa_4, q_rt_4, q_oa_5, q_rt_5, q_oa_6, q_rt_6, q_oa_7, q_rt_7, q_oa_8, q_rt_8, q_oa_9, q_rt_9, q_oa_10, q_rt_10, q_oa_11, q_rt_11, q_oa_12, q_rt_12, q_oa_13, q_rt_13, q_oa_14, q_rt_14, q_oa_15, q_rt_15, q_oa_16, q_rt_16, q_oa_17, q_rt_17, q_oa_18, q_rt_18, q_oa_19, q_rt_19, q_oa_20, q_rt_20, q_oa_21, q_rt_21, q_oa_22, q_rt_22, q_oa_23, q_rt_23, q_ar_0, q_ar_1, q_ar_2, asI_i, q_less1, q_less2, q_less3, q_slot, q_rows, q_dict, q_asInt, q_listIt, q_rowR, q_ret, q_bind, q_bindn, q_map, q_mapn, q_evT, q_own, startR, List.getElem?_cons_succ, List.getElem?_cons_zero, List.set_cons_succ, List.set_cons_zero, List.map_cons, List.map_nil, List.replicate, List.length_cons, List.length_nil, List.append_eq, List.nil_append, List.cons_append, Bool.and_true, Bool.true_and, Bool.and_false, Bool.false_and, Bool.not_true, Bool.not_false, if_true, if_false, reduceCtorEq, Nat.reduceSub, Nat.reduceAdd, Nat.reduceLeDiff, Bool.false_eq_true, Bool.or_false, Bool.false_or, ite_true, ite_false, lenOk_0, lenOk_1, lenOk_2, lenOk_3, lenOk_4, lenOk_5, lenOk_6, lenOk_7, lenOk_8, i_add, i_sub, i_neg, i_asI, N_int, i_inti, i_intb, decide_true, decide_false, i_eq, c1, w0]
  · have c1 : decide (((n + 2 : Nat) : Int) = 2) = false := decide_eq_false (by omega)
    have eq := equations_is hS0 h hS hB hK (by omega) hn
    have i1 : (((n + 2 : Nat) : Int) - 1) = ((n + 1 : Nat) : Int) := by omega
    have i2 : (((n + 2 : Nat) : Int) - 2) = (n : Int) := by omega
    have hr : evRng [.int 1, .int ((n + 1 : Nat) : Int)] = some ((List.range' 1 n).map N) := n_rng2 (a := 1) (b := n + 1) (by decide) (by omega)
    have zR : ∀ i j, i < n + 2 → j < n + 2 → Sz K (netM ts i j) := fun i j hi hj => by
      have := net_dn (S := S) (B := B) (c := n + 2) ts (fun _ _ => 0) 0 h (fun _ _ _ _ => Dn.zero) i j hi hj
      rw [Nat.zero_add] at this
      refine this.sz hS0 hS (Nat.lt_of_le_of_lt (Nat.mul_le_mul_right B (show 4 * ts.length ≤ 4 * ts.length + 4 by omega)) hB)
    have main := forGo_do (g := .nm 8) (f := blk FUEL ib_heights_by_2) N (fun pre ρ => ∃ s8 s9, ρ = [sI (d : Int), sI ((n + 2 : Nat) : Int), some (false, .list (ts.map encPt)), some (false, .list (ts.map fun t => L t.2.2)), sQ top, some (false, .list ((List.range' 1 n).map N)), some (false, encX (n + 2) (n + 2) (netM ts)), some (true, .list ((List.range pre.length).map fun i => encR (n + 1) (sys n ts top i))), s8, s9, none]) (l := List.range' 1 n)
      (ρ := [sI (d : Int), sI ((n + 2 : Nat) : Int), some (false, .list (ts.map encPt)), some (false, .list (ts.map fun t => L t.2.2)), sQ top, some (false, .list ((List.range' 1 n).map N)), some (false, encX (n + 2) (n + 2) (netM ts)), some (true, .list []), none, none, none]) ⟨none, none, rfl⟩ (by
      rintro pre k suf ρ hk ⟨s8, s9, rfl⟩
      obtain ⟨e, hl⟩ := hrange hk
      subst e
      have x1 := ixX (n := n + 2) (A := netM ts) (show 1 + pre.length < n + 2 by omega)
      have x2 := ixR (n := n + 2) (f := netM ts (1 + pre.length)) (j := n + 1) (by omega)
      have t1 := p_times_is hd (zR (1 + pre.length) (n + 1) (by omega) (by omega)) ht (by omega)
      have t2 := minus_is (x := (0 : Q d)) (y := netM ts (1 + pre.length) (n + 1) * top) (k := 1) (l := K + kt + 7) (by
        have := Sz.of (d := d) (k := 1) (p := 0) (q := 0) (s := 1) (by decide) (by decide) (by decide) (by decide)
        rw [show mkQ d 0 0 1 = (0 : Q d) by
          exact mkQ_of (by decide) (by show (0 : Rat) * _ = _; decide +kernel) (by show (0 : Rat) * _ = _; decide +kernel)] at this
        exact this) (times_sz hd (zR (1 + pre.length) (n + 1) (by omega) (by omega)) ht) (by omega)
      have cmp : ∀ (b : Bool) (s9 : Option PV.R), evE ic_heights_by_1 b [sI (d : Int), sI ((n + 2 : Nat) : Int), some (false, .list (ts.map encPt)), some (false, .list (ts.map fun t => L t.2.2)), sQ top, some (false, .list ((List.range' 1 n).map N)), some (false, encX (n + 2) (n + 2) (netM ts)), some (true, .list ((List.range pre.length).map fun i => encR (n + 1) (sys n ts top i))), sI ((1 + pre.length : Nat) : Int), s9, none] = some (true, .list ((List.range' 1 n).map fun j => L (netM ts (1 + pre.length) j))) := fun b s9 => by
        unfold ic_heights_by_1
        simp only [q_wipeR_1, q_wipeR_2, q_asg_1, q_asg_2, q_asg_3, q_asg_4, q_asg_5, q_asg_6, q_asg_7, q_asgR_1, q_ownedArg_1, q_ownedArgs_1, q_ownedArgs_2, q_itemsOf_1, q_itemsOf_2, q_evE_1, q_evE_2, q_evE_3, q_evE_4, q_evE_5, q_evE_6, q_evE_7, q_evE_8, q_evE_9, q_evE_10, q_evE_11, q_evE_12, q_evE_13, q_evE_14, q_evE_15, q_evE_16, q_evE_17, q_evE_18, q_evE_19, q_evE_20, q_evE_21, q_evE_22, q_evE_23, q_evE_24, q_evE_25, q_evEs_1, q_evEs_2, q_evP_1, q_evP_2, q_evC_1, q_evC_2, q_evI_1, q_evI_2, q_evRet_1, q_evS_1, q_evS_2, q_evS_3, q_evS_4, q_evS_5, q_evS_6, q_evS_7, q_evS_8, q_evS_9, q_evS_10, q_evS_11, q_evS_12, q_evS_13, q_evS_14, q_evS_15, q_evS_16, q_evS_17, q_evS_18, q_evS_19, q_evS_20, q_evS_21, q_evSs_1, q_evSs_2, q_oa_0, q_rt_0, q_oa_1, q_rt_1, q_oa_2, q_rt_2, q_oa_3, q_rt_3, q_oa_4, q_rt_4, q_oa_5, q_rt_5, q_oa_6, q_rt_6, q_oa_7, q_rt_7, q_oa_8, q_rt_8, q_oa_9, q_rt_9, q_oa_10, q_rt_10, q_oa_11, q_rt_11, q_oa_12, q_rt_12, q_oa_13, q_rt_13, q_oa_14, q_rt_14, q_oa_15, q_rt_15, q_oa_16, q_rt_16, q_oa_17, q_rt_17, q_oa_18, q_rt_18, q_oa_19, q_rt_19, q_oa_20, q_rt_20, q_oa_21, q_rt_21, q_oa_22, q_rt_22, q_oa_23, q_rt_23, q_ar_0, q_ar_1, q_ar_2, asI_i, q_less1, q_less2, q_less3, q_slot, q_rows, q_dict, q_asInt, q_listIt, q_rowR, q_ret, q_bind, q_bindn, q_map, q_mapn, q_evT, q_own, startR, List.getElem?_cons_succ, List.getElem?_cons_zero, List.set_cons_succ, List.set_cons_zero, List.map_cons, List.map_nil, List.replicate, List.length_cons, List.length_nil, List.append_eq, List.nil_append, List.cons_append, Bool.and_true, Bool.true_and, Bool.and_false, Bool.false_and, Bool.not_true, Bool.not_false, if_true, if_false, reduceCtorEq, Nat.reduceSub, Nat.reduceAdd, Nat.reduceLeDiff, Bool.false_eq_true, Bool.or_false, Bool.false_or, ite_true, ite_false, lenOk_0, lenOk_1, lenOk_2, lenOk_3, lenOk_4, lenOk_5, lenOk_6, lenOk_7, lenOk_8, i_add, i_sub, i_neg, i_asI, N_int, i_inti, i_intb, decide_true, decide_false]
        rw [compGo_map (enc := N) (en2 := L) (fun j : Nat => some (netM ts (1 + pre.length) j)), filterMap_some]
        · rw [List.map_map]; rfl
        · intro j hj
          rw [List.mem_range'_1] at hj
          have y1 := ixR (n := n + 2) (f := netM ts (1 + pre.length)) (j := j) (by omega)
          simp only [q_wipeR_1, q_wipeR_2, q_asg_1, q_asg_2, q_asg_3, q_asg_4, q_asg_5, q_asg_6, q_asg_7, q_asgR_1, q_ownedArg_1, q_ownedArgs_1, q_ownedArgs_2, q_itemsOf_1, q_itemsOf_2, q_evE_1, q_evE_2, q_evE_3, q_evE_4, q_evE_5, q_evE_6, q_evE_7, q_evE_8, q_evE_9, q_evE_10, q_evE_11, q_evE_12, q_evE_13, q_evE_14, q_evE_15, q_evE_16, q_evE_17, q_evE_18, q_evE_19, q_evE_20, q_evE_21, q_evE_22, q_evE_23, q_evE_24, q_evE_25, q_evEs_1, q_evEs_2, q_evP_1, q_evP_2, q_evC_1, q_evC_2, q_evI_1, q_evI_2, q_evRet_1, q_evS_1, q_evS_2, q_evS_3, q_evS_4, q_evS_5, q_evS_6, q_evS_7, q_evS_8, q_evS_9, q_evS_10, q_evS_11, q_evS_12, q_evS_13, q_evS_14, q_evS_15, q_evS_16, q_evS_17, q_evS_18, q_evS_19, q_evS_20, q_evS_21, q_evSs_1, q_evSs_2, q_oa_0, q_rt_0, q_oa_1, q_rt_1, q_oa_2, q_rt_2, q_oa_3, q_rt_3, q_oa_4, q_rt_4, q_oa_5, q_rt_5, q_oa_6, q_rt_6, q_oa_7, q_rt_7, q_oa_8, q_rt_8, q_oa_9, q_rt_9, q_oa_10, q_rt_10, q_oa_11, q_rt_11, q_oa_12, q_rt_12, q_oa_13, q_rt_13, q_oa_14, q_rt_14, q_oa_15, q_rt_15, q_oa_16, q_rt_16, q_oa_17, q_rt_17, q_oa_18, q_rt_18, q_oa_19, q_rt_19, q_oa_20, q_rt_20, q_oa_21, q_rt_21, q_oa_22, q_rt_22, q_oa_23, q_rt_23, q_ar_0, q_ar_1, q_ar_2, asI_i, q_less1, q_less2, q_less3, q_slot, q_rows, q_dict, q_asInt, q_listIt, q_rowR, q_ret, q_bind, q_bindn, q_map, q_mapn, q_evT, q_own, startR, List.getElem?_cons_succ, List.getElem?_cons_zero, List.set_cons_succ, List.set_cons_zero, List.map_cons, List.map_nil, List.replicate, List.length_cons, List.length_nil, List.append_eq, List.nil_append, List.cons_append, Bool.and_true, Bool.true_and, Bool.and_false, Bool.false_and, Bool.not_true, Bool.not_false, if_true, if_false, reduceCtorEq, Nat.reduceSub, Nat.reduceAdd, Nat.reduceLeDiff, Bool.false_eq_true, Bool.or_false, Bool.false_or, ite_true, ite_false, lenOk_0, lenOk_1, lenOk_2, lenOk_3, lenOk_4, lenOk_5, lenOk_6, lenOk_7, lenOk_8, i_add, i_sub, i_neg, i_asI, N_int, i_inti, i_intb, decide_true, decide_false, x1, y1]
      have rowe : ((List.range' 1 n).map fun j => L (netM ts (1 + pre.length) j)) ++ [L (0 - netM ts (1 + pre.length) (n + 1) * top)] = ((List.range n).map fun j => L (sys n ts top pre.length j)) ++ [L (sys n ts top pre.length n)] := by
        have e1 : (List.range' 1 n).map (fun j => L (netM ts (1 + pre.length) j)) = (List.range n).map fun j => L (sys n ts top pre.length j) := by
          rw [List.range'_eq_map_range, List.map_map]
          refine List.map_congr_left fun j hj => ?_
          have hj := List.mem_range.mp hj
          show L (netM ts (1 + pre.length) (1 + j)) = L (sys n ts top pre.length j)
          unfold sys
          rw [if_pos hj, Nat.add_comm 1, Nat.add_comm 1]
        have e2 : sys n ts top pre.length n = 0 - netM ts (1 + pre.length) (n + 1) * top := by
          unfold sys
          rw [if_neg (by omega), Nat.add_comm 1]
        rw [e1, e2]
      have lk1 : lenOk (((List.range' 1 n).map fun j => L (netM ts (1 + pre.length) j)).length + 1) = true := lenOk_of (by rw [List.length_map, List.length_range']; omega)
      have lk2 : lenOk (((List.range pre.length).map fun i => encR (n + 1) (sys n ts top i)).length + 1) = true := lenOk_of (by rw [List.length_map, List.length_range]; omega)
      refine ⟨_, _, rfl, ?_, sI ((1 + pre.length : Nat) : Int), sQ (netM ts (1 + pre.length) (n + 1) * top), rfl⟩
      show evSs FUEL ib_heights_by_2 [sI (d : Int), sI ((n + 2 : Nat) : Int), some (false, .list (ts.map encPt)), some (false, .list (ts.map fun t => L t.2.2)), sQ top, some (false, .list ((List.range' 1 n).map N)), some (false, encX (n + 2) (n + 2) (netM ts)), some (true, .list ((List.range pre.length).map fun i => encR (n + 1) (sys n ts top i))), sI ((1 + pre.length : Nat) : Int), s9, none] = _
      have fin : (List.range (pre ++ [1 + pre.length]).length).map (fun i => encR (n + 1) (sys n ts top i)) = ((List.range pre.length).map fun i => encR (n + 1) (sys n ts top i)) ++ [.list (((List.range' 1 n).map fun j => L (netM ts (1 + pre.length) j)) ++ [L (0 - netM ts (1 + pre.length) (n + 1) * top)])] := by
        rw [List.length_append, List.length_singleton, List.range_succ, List.map_append, rowe, ← encR_snoc]
        rfl
      rw [fin]
      unfold ib_heights_by_2
      simp only [q_wipeR_1, q_wipeR_2, q_asg_1, q_asg_2, q_asg_3, q_asg_4, q_asg_5, q_asg_6, q_asg_7, q_asgR_1, q_ownedArg_1, q_ownedArgs_1, q_ownedArgs_2, q_itemsOf_1, q_itemsOf_2, q_evE_1, q_evE_2, q_evE_3, q_evE_4, q_evE_5, q_evE_6, q_evE_7, q_evE_8, q_evE_9, q_evE_10, q_evE_11, q_evE_12, q_evE_13, q_evE_14, q_evE_15, q_evE_16, q_evE_17, q_evE_18, q_evE_19, q_evE_20, q_evE_21, q_evE_22, q_evE_23, q_evE_24, q_evE_25, q_evEs_1, q_evEs_2, q_evP_1, q_evP_2, q_evC_1, q_evC_2, q_evI_1, q_evI_2, q_evRet_1, q_evS_1, q_evS_2, q_evS_3, q_evS_4, q_evS_5, q_evS_6, q_evS_7, q_evS_8, q_evS_9, q_evS_10, q_evS_11, q_evS_12, q_evS_13, q_evS_14, q_evS_15, q_evS_16, q_evS_17, q_evS_18, q_evS_19, q_evS_20, q_evS_21, q_evSs_1, q_evSs_2, q_oa_0, q_rt_0, q_oa_1, q_rt_1, q_oa_2, q_rt_2, q_oa_3, q_rt_3, q_oa_4, q_rt_4, q_oa_5, q_rt_5, q_oa_6, q_rt_6, q_oa_7, q_rt_7, q_oa_8, q_rt_8, q_oa_9, q_rt_9, q_oa_10, q_rt_10, q_oa_11, q_rt_11, q_oa_12, q_rt_12, q_oa_13, q_rt_13, q_oa_14, q_rt_14, q_oa_15, q_rt_15, q_oa_16, q_rt_16, q_oa_17, q_rt_17, q_oa_18, q_rt_18, q_oa_19, q_rt_19, q_oa_20, q_rt_20, q_oa_21, q_rt_21, q_oa_22, q_rt_22, q_oa_23, q_rt_23, q_ar_0, q_ar_1, q_ar_2, asI_i, q_less1, q_less2, q_less3, q_slot, q_rows, q_dict, q_asInt, q_listIt, q_rowR, q_ret, q_bind, q_bindn, q_map, q_mapn, q_evT, q_own, startR, List.getElem?_cons_succ, List.getElem?_cons_zero, List.set_cons_succ, List.set_cons_zero, List.map_cons, List.map_nil, List.replicate, List.length_cons, List.length_nil, List.append_eq, List.nil_append, List.cons_append, Bool.and_true, Bool.true_and, Bool.and_false, Bool.false_and, Bool.not_true, Bool.not_false, if_true, if_false, reduceCtorEq, Nat.reduceSub, Nat.reduceAdd, Nat.reduceLeDiff, Bool.false_eq_true, Bool.or_false, Bool.false_or, ite_true, ite_false, lenOk_0, lenOk_1, lenOk_2, lenOk_3, lenOk_4, lenOk_5, lenOk_6, lenOk_7, lenOk_8, i_add, i_sub, i_neg, i_asI, N_int, i_inti, i_intb, decide_true, decide_false, i1, x1, x2, t1, cmp, w0, t2, hcat, lk1, lk2])
    obtain ⟨ρ', e1, s8, s9, rfl⟩ := main
    rw [List.length_range'] at e1
    have sv := solved_is hd fine hKF (by omega)
    have et : PyData.list ((List.range n).map fun i => encR (n + 1) (sys n ts top i)) = encX n (n + 1) (sys n ts top) := rfl
    have es : encR n (sol n (sys n ts top)) = .list ((List.range n).map fun j => L (sol n (sys n ts top) j)) := rfl
    rw [es] at sv
    have fin : encR (n + 2) (hts n ts top) = .list (([L (0 : Q d)] ++ (List.range n).map fun j => L (sol n (sys n ts top) j)) ++ [L top]) := by
      rw [show n + 2 = n + 1 + 1 by omega, encR_snoc, he1]
      have e : (List.range (n + 1)).map (fun j => L (hts n ts top j)) = L (0 : Q d) :: (List.range n).map fun j => L (sol n (sys n ts top) j) := by
        rw [List.range_succ_eq_map, List.map_cons, he0, List.map_map]
        exact congrArg (fun l => L (0 : Q d) :: l) (List.map_congr_left fun j hj => by
          show L (hts n ts top (j + 1)) = _
          unfold hts
          rw [ext_in (List.mem_range.mp hj)])
      rw [e]
      rfl
    have lk1 : lenOk (1 + ((List.range n).map fun j => L (sol n (sys n ts top) j)).length) = true := lenOk_of (by rw [List.length_map, List.length_range]; omega)
    have lk2 : lenOk (((List.range n).map fun j => L (sol n (sys n ts top) j)).length + 1 + 1) = true := lenOk_of (by rw [List.length_map, List.length_range]; omega)
    have e1 := e1
    unfold f_heights_by evDef ir_heights_by
    simp only [q_wipeR_1, q_wipeR_2, q_asg_1, q_asg_2, q_asg_3, q_asg_4, q_asg_5, q_asg_6, q_asg_7, q_asgR_1, q_ownedArg_1, q_ownedArgs_1, q_ownedArgs_2, q_itemsOf_1, q_itemsOf_2, q_evE_1, q_evE_2, q_evE_3, q_evE_4, q_evE_5, q_evE_6, q_evE_7, q_evE_8, q_evE_9, q_evE_10, q_evE_11, q_evE_12, q_evE_13, q_evE_14, q_evE_15, q_evE_16, q_evE_17, q_evE_18, q_evE_19, q_evE_20, q_evE_21, q_evE_22, q_evE_23, q_evE_24, q_evE_25, q_evEs_1, q_evEs_2, q_evP_1, q_evP_2, q_evC_1, q_evC_2, q_evI_1, q_evI_2, q_evRet_1, q_evS_1, q_evS_2, q_evS_3, q_evS_4, q_evS_5, q_evS_6, q_evS_7, q_evS_8, q_evS_9, q_evS_10, q_evS_11, q_evS_12, q_evS_13, q_evS_14, q_evS_15, q_evS_16, q_evS_17, q_evS_18, q_evS_19, q_evS_20, q_evS_21, q_evSs_1, q_evSs_2, q_oa_0, q_rt_0, q_oa_1, q_rt_1, q_oa_2, q_rt_2, q_oa_3, q_rt_3, q_oa_4, q_rt_4, q_oa_5, q_rt_5, q_oa_6, q_rt_6, q_oa_7, q_rt_7, q_oa_8, q_rt_8, q_oa_9, q_rt_9, q_oa_10, q_rt_10, q_oa_11, q_rt_11, q_oa_12, q_rt_12, q_oa_13, q_rt_13, q_oa_14, q_rt_14, q_oa_15, q_rt_15, q_oa_16, q_rt_16, q_oa_17, q_rt_17, q_oa_18, q_rt_18, q_oa_19, q_rt_19, q_oa_20, q_rt_20, q_oa_21, q_rt_21, q_oa_22, q_rt_22, q_oa_23, q_rt_23, q_ar_0, q_ar_1, q_ar_2, asI_i, q_less1, q_less2, q_less3, q_slot, q_rows, q_dict, q_asInt, q_listIt, q_rowR, q_ret, q_bind, q_bindn, q_map, q_mapn, q_evT, q_own, startR, List.getElem?_cons_succ, List.getElem?_cons_zero, List.set_cons_succ, List.set_cons_zero, List.map_cons, List.map_nil, List.replicate, List.length_cons, List.length_nil, List.append_eq, List.nil_append, List.cons_append, Bool.and_true, Bool.true_and, Bool.and_false, Bool.false_and, Bool.not_true, Bool.not_false, if_true, if_false, reduceCtorEq, Nat.reduceSub, Nat.reduceAdd, Nat.reduceLeDiff, Bool.false_eq_true, Bool.or_false, Bool.false_or, ite_true, ite_false, lenOk_0, lenOk_1, lenOk_2, lenOk_3, lenOk_4, lenOk_5, lenOk_6, lenOk_7, lenOk_8, i_add, i_sub, i_neg, i_asI, N_int, i_inti, i_intb, decide_true, decide_false, i_eq, c1, i1, hr, eq, e1]
    have nl : nolistR (true, PyData.list ((List.range n).map fun j => L (sol n (sys n ts top) j))) = true := by
      show nolistA _ = true
      have : ∀ l : List Nat, nolistA (l.map fun j => L (sol n (sys n ts top) j)) = true := fun l => by
        induction l with
        | nil => rfl
        | cons x l ih => show (nolist (L _) && nolistA _) = true; rw [ih]; rfl
      exact this _
    rw [et]
    have ex : encX n (n + 1) (sys n ts top) = .list ((List.range n).map fun i => encR (n + 1) (sys n ts top i)) := rfl
    rw [ex] at sv ⊢
    simp only [q_wipeR_1, q_wipeR_2, q_asg_1, q_asg_2, q_asg_3, q_asg_4, q_asg_5, q_asg_6, q_asg_7, q_asgR_1, q_ownedArg_1, q_ownedArgs_1, q_ownedArgs_2, q_itemsOf_1, q_itemsOf_2, q_evE_1, q_evE_2, q_evE_3, q_evE_4, q_evE_5, q_evE_6, q_evE_7, q_evE_8, q_evE_9, q_evE_10, q_evE_11, q_evE_12, q_evE_13, q_evE_14, q_evE_15, q_evE_16, q_evE_17, q_evE_18, q_evE_19, q_evE_20, q_evE_21, q_evE_22, q_evE_23, q_evE_24, q_evE_25, q_evEs_1, q_evEs_2, q_evP_1, q_evP_2, q_evC_1, q_evC_2, q_evI_1, q_evI_2, q_evRet_1, q_evS_1, q_evS_2, q_evS_3, q_evS_4, q_evS_5, q_evS_6, q_evS_7, q_evS_8, q_evS_9, q_evS_10, q_evS_11, q_evS_12, q_evS_13, q_evS_14, q_evS_15, q_evS_16, q_evS_17, q_evS_18, q_evS_19, q_evS_20, q_evS_21, q_evSs_1, q_evSs_2, q_oa_0, q_rt_0, q_oa_1, q_rt_1, q_oa_2, q_rt_2, q_oa_3, q_rt_3, q_oa_4, q_rt_4, q_oa_5, q_rt_5, q_oa_6, q_rt_6, q_oa_7, q_rt_7, q_oa_8, q_rt_8, q_oa_9, q_rt_9, q_oa_10, q_rt_10, q_oa_11, q_rt_11, q_oa_12, q_rt_12, q_oa_13, q_rt_13, q_oa_14, q_rt_14, q_oa_15, q_rt_15, q_oa_16, q_rt_16, q_oa_17, q_rt_17, q_oa_18, q_rt_18, q_oa_19, q_rt_19, q_oa_20, q_rt_20, q_oa_21, q_rt_21, q_oa_22, q_rt_22, q_oa_23, q_rt_23, q_ar_0, q_ar_1, q_ar_2, asI_i, q_less1, q_less2, q_less3, q_slot, q_rows, q_dict, q_asInt, q_listIt, q_rowR, q_ret, q_bind, q_bindn, q_map, q_mapn, q_evT, q_own, startR, List.getElem?_cons_succ, List.getElem?_cons_zero, List.set_cons_succ, List.set_cons_zero, List.map_cons, List.map_nil, List.replicate, List.length_cons, List.length_nil, List.append_eq, List.nil_append, List.cons_append, Bool.and_true, Bool.true_and, Bool.and_false, Bool.false_and, Bool.not_true, Bool.not_false, if_true, if_false, reduceCtorEq, Nat.reduceSub, Nat.reduceAdd, Nat.reduceLeDiff, Bool.false_eq_true, Bool.or_false, Bool.false_or, ite_true, ite_false, lenOk_0, lenOk_1, lenOk_2, lenOk_3, lenOk_4, lenOk_5, lenOk_6, lenOk_7, lenOk_8, i_add, i_sub, i_neg, i_asI, N_int, i_inti, i_intb, decide_true, decide_false, i2, sv, nl, w0, hcat, lk1, lk2]
    rw [fin]
    rfl
end K81

set_option Elab.async false
set_option linter.all false
set_option maxRecDepth 100000
set_option maxHeartbeats 4000000
set_option exponentiation.threshold 100000
namespace K81
open PySem L2 PV Qu LX
open Classical
variable {d : Nat} [NSq d]
theorem dn_int {S B : Nat} {x : Q d} (h : Dn S B x) : Dn 1 B (x * ((S : Int) : Q d)) := by
  obtain ⟨m, n, e1, e2, e3, e4⟩ := h
  have one : ((1 : Nat) : Rat) = 1 := by decide
  have sc : ((S : Int) : Rat) = (S : Rat) := Rat.intCast_natCast S
  refine ⟨m, n, ?_, ?_, e3, e4⟩
  · rw [one]
    show (x.a * ((S : Int) : Rat) + (d : Rat) * (x.b * 0)) * 1 = _
    rw [sc, ← e1]; grind
  · rw [one]
    show (x.a * 0 + x.b * ((S : Int) : Rat)) * 1 = _
    rw [sc, ← e2]; grind
theorem nat_dn (n : Nat) : Dn 1 n (((n : Nat) : Int) : Q d) := ⟨n, 0, by
  show ((n : Int) : Rat) * ((1 : Nat) : Rat) = _
  have one : ((1 : Nat) : Rat) = 1 := by decide
  rw [one]; grind, by
  show (0 : Rat) * _ = ((0 : Int) : Rat)
  have : ((0 : Int) : Rat) = 0 := rfl
  rw [this]; grind, by omega, by omega⟩
theorem nat_ne {n : Nat} (h : 0 < n) : (((n : Nat) : Int) : Q d) ≠ 0 := fun e => by
  have e : ((n : Int) : Rat) = ((0 : Int) : Rat) := congrArg Q.a e
  have := Rat.intCast_inj.mp e
  omega
def fct : Nat → Nat
  | 0 => 1
  | n + 1 => (n + 1) * fct n
theorem bd_fct {c B C : Nat} (h : c * B ≤ C) : ∀ k, bd c B k ≤ fct k * C ^ k
  | 0 => Nat.le_refl _
  | k + 1 => by
    have ih := bd_fct h k
    show (k + 1) * (c * (B * bd c B k)) ≤ (k + 1) * fct k * C ^ (k + 1)
    rw [Nat.mul_assoc (k + 1)]
    refine Nat.mul_le_mul_left _ ?_
    rw [← Nat.mul_assoc, Nat.pow_succ]
    have := Nat.mul_le_mul h ih
    rw [show fct k * (C ^ k * C) = C * (fct k * C ^ k) by rw [← Nat.mul_assoc, Nat.mul_comm]]
    exact this
theorem fct_le : ∀ k, k ≤ 6 → fct k ≤ 720
  | 0, _ => by decide
  | 1, _ => by decide
  | 2, _ => by decide
  | 3, _ => by decide
  | 4, _ => by decide
  | 5, _ => by decide
  | 6, _ => by decide
  | k + 7, h => absurd h (by omega)
theorem bd_g {c B : Nat} (h : c * B ≤ 2 ^ 47) {k : Nat} (hk : k ≤ 6) : bd c B k ≤ 2 ^ 292 := by
  have h1 := bd_fct h k
  have h2 := Nat.mul_le_mul (fct_le k hk) (Nat.pow_le_pow_right (show 0 < 2 ^ 47 by decide) hk)
  have h3 : 720 * (2 ^ 47) ^ 6 ≤ 2 ^ 292 := by decide
  omega
/-- shares over one denominator -/
def BS : Nat := 608256
/-- a net of at most eight lines, as the law draws them -/
structure Net (n : Nat) (ts : List (Nt d)) : Prop where
  n6 : n ≤ 6
  len : ts.length ≤ 12
  ix : ∀ t ∈ ts, t.1 < n + 2 ∧ t.2.1 < n + 2
  pos : ∀ t ∈ ts, 0 < t.2.2
  dn : ∀ t ∈ ts, Dn 144 BS t.2.2
  conn : Conn (n + 2) ts
theorem Net.entry {n : Nat} {ts : List (Nt d)} (h : Net n ts) {i j : Nat} (hi : i < n + 2) (hj : j < n + 2) : Dn 144 (48 * BS) (netM ts i j) := by
  have := net_dn (S := 144) (B := BS) (c := n + 2) ts (fun _ _ => 0) 0 (fun t ht => ⟨(h.ix t ht).1, (h.ix t ht).2, h.dn t ht⟩) (fun _ _ _ _ => Dn.zero) i j hi hj
  refine this.mono ?_
  rw [Nat.zero_add]
  exact Nat.mul_le_mul_right _ (by have := h.len; omega)
theorem Net.bnd (hd : d < 64) {n : Nat} {ts : List (Nt d)} {top : Q d} (h : Net n ts) (ht : Dn 12 192 top) : Bnd (fun B x => Dn 1 B x) n (sys n ts top) (2 ^ 595) (2 ^ 642) := by
  have hc : (d + 2) * 2 ^ 40 ≤ 2 ^ 47 := by
    have := Nat.mul_le_mul_right (2 ^ 40) (show d + 2 ≤ 66 by omega)
    omega
  have g1 : (d + 2) * (2 ^ 292 * 2 ^ 292) ≤ 66 * (2 ^ 292 * 2 ^ 292) := Nat.mul_le_mul_right _ (by omega)
  have g2 : n * 2 ^ 292 ≤ 6 * 2 ^ 292 := Nat.mul_le_mul_right _ h.n6
  have g3 : n * ((d + 2) * (2 ^ 292 * 2 ^ 292)) ≤ 6 * ((d + 2) * (2 ^ 292 * 2 ^ 292)) := Nat.mul_le_mul_right _ h.n6
  have g4 : (d + 2) * (2 ^ 292 * 2 ^ 40) ≤ 66 * (2 ^ 292 * 2 ^ 40) := Nat.mul_le_mul_right _ (by omega)
  have g5 : (d + 2) * ((d + 2) * (2 ^ 292 * 2 ^ 40) * 2 ^ 292) ≤ 66 * ((d + 2) * (2 ^ 292 * 2 ^ 40) * 2 ^ 292) := Nat.mul_le_mul_right _ (by omega)
  have g6 : (d + 2) * (2 ^ 292 * 2 ^ 40) * 2 ^ 292 ≤ 66 * (2 ^ 292 * 2 ^ 40) * 2 ^ 292 := Nat.mul_le_mul_right _ g4
  refine bnd_of (c := d + 2) (B := 2 ^ 40) (g := 2 ^ 292) gr_dn (sys_pd h.ix h.pos h.conn) (fun i j hi hj => sys_symm h.ix hi hj) (nat_ne (n := 1728) (by decide)) ((nat_dn 1728).mono (by decide)) (fun i j hi hj => ?_) (fun k hk => bd_g hc (by have := h.n6; omega)) (by decide) (by omega) (by omega) (by omega)
  unfold sys
  split
  · exact (dn_int ((h.entry (i := i + 1) (j := j + 1) (by omega) (by omega)).up (T := 1728) (k := 12) rfl)).mono (by decide)
  · have z : Dn 1728 ((d + 2) * (48 * BS * 192)) (0 - netM ts (i + 1) (n + 1) * top) := by
      have := (h.entry (i := i + 1) (j := n + 1) (by omega) (by omega)).mul ht
      have e : (0 : Q d) - netM ts (i + 1) (n + 1) * top = -(netM ts (i + 1) (n + 1) * top) := by grind
      rw [e]
      exact this.neg
    refine (dn_int z).mono ?_
    have := Nat.mul_le_mul_right (48 * BS * 192) (show d + 2 ≤ 66 by omega)
    have e : 66 * (48 * BS * 192) ≤ 2 ^ 40 := by decide
    omega
theorem Net.fine (hd : d < 64) {n : Nat} {ts : List (Nt d)} {top : Q d} (h : Net n ts) (ht : Dn 12 192 top) : Fine 1300 n (sys n ts top) := by
  refine fine_of (sys_pd h.ix h.pos h.conn) (h.bnd hd ht) ?_ ?_
  · have := Nat.mul_le_mul_right (2 ^ 595 * 2 ^ 642) (show d + 2 ≤ 66 by omega)
    omega
  · have := Nat.mul_le_mul_right (2 ^ 642 * 2 ^ 642) (show d + 2 ≤ 66 by omega)
    omega
theorem Net.heights (hd : d < 64) {n : Nat} {ts : List (Nt d)} {top : Q d} (h : Net n ts) (ht : Dn 12 192 top) : f_heights_by [.int (d : Int), .int ((n + 2 : Nat) : Int), .list (ts.map encPt), .list (ts.map fun t => L t.2.2), L top] = some (true, encR (n + 2) (hts n ts top)) :=
  heights_is (S := 144) (B := BS) (K := 30) (KF := 1300) (kt := 10) hd (by decide) (fun t ht => ⟨(h.ix t ht).1, (h.ix t ht).2, h.dn t ht⟩) (by decide) (by
    have := Nat.mul_le_mul_right BS (show 4 * ts.length + 4 ≤ 52 by have := h.len; omega)
    have e : 52 * BS < 2 ^ 30 := by decide
    omega) (by decide) (by have := h.n6; omega) (by have := h.len; omega) (h.fine hd ht) (by decide) (ht.sz (by decide) (by decide) (by decide)) (by decide)
/-- one denominator for all heights -/
theorem Net.common (hd : d < 64) {n : Nat} {ts : List (Nt d)} {top : Q d} (h : Net n ts) (ht : Dn 12 192 top) : ∃ W : Q d, W ≠ 0 ∧ Dn 1 (2 ^ 660) W ∧ ∀ i, i < n + 2 → Dn 1 (2 ^ 670) (hts n ts top i * W) := by
  obtain ⟨W, w1, w2, w3⟩ := (h.bnd hd ht).z2
  have t12 := dn_int (S := 12) ht
  have n12 := nat_dn (d := d) 12
  have c1 : ∀ B : Nat, (d + 2) * B ≤ 66 * B := fun B => Nat.mul_le_mul_right _ (by omega)
  refine ⟨W * (((12 : Nat) : Int) : Q d), fun e => ?_, (w2.mul n12).mono ?_, fun i hi => ?_⟩
  · have := nat_ne (d := d) (n := 12) (by decide)
    grind
  · have := c1 (2 ^ 642 * 12)
    show (d + 2) * (2 ^ 642 * 12) ≤ _
    omega
  · obtain ⟨e0, e1⟩ := hts_ends (n := n) (ts := ts) (top := top)
    by_cases i0 : i = 0
    · rw [i0, e0, show (0 : Q d) * (W * (((12 : Nat) : Int) : Q d)) = 0 by grind]
      exact Dn.zero.mono (Nat.zero_le _)
    · by_cases i1 : i = n + 1
      · rw [i1, e1, show top * (W * (((12 : Nat) : Int) : Q d)) = top * (((12 : Nat) : Int) : Q d) * W by grind]
        refine (t12.mul w2).mono ?_
        have := c1 (192 * 2 ^ 642)
        show (d + 2) * (192 * 2 ^ 642) ≤ _
        omega
      · obtain ⟨j, rfl⟩ : ∃ j, i = j + 1 := ⟨i - 1, by omega⟩
        unfold hts
        rw [ext_in (by omega), show ∀ x : Q d, x * (W * (((12 : Nat) : Int) : Q d)) = x * W * (((12 : Nat) : Int) : Q d) from fun x => by grind]
        refine ((w3 j (by omega)).mul n12).mono ?_
        have := c1 (2 ^ 595 * 12)
        show (d + 2) * (2 ^ 595 * 12) ≤ _
        omega
theorem Net.hsz (hd : d < 64) {n i : Nat} {ts : List (Nt d)} {top : Q d} (h : Net n ts) (ht : Dn 12 192 top) (hi : i < n + 2) : Sz 1400 (hts n ts top i) := by
  obtain ⟨W, w1, w2, w3⟩ := h.common hd ht
  refine quot_sz rfl w1 (w3 i hi) w2 ?_ ?_
  · have := Nat.mul_le_mul_right (2 ^ 670 * 2 ^ 660) (show d + 2 ≤ 66 by omega)
    omega
  · have := Nat.mul_le_mul_right (2 ^ 660 * 2 ^ 660) (show d + 2 ≤ 66 by omega)
    omega
end K81

set_option Elab.async false
set_option linter.all false
set_option maxRecDepth 100000
set_option maxHeartbeats 4000000
set_option exponentiation.threshold 100000
namespace K81
open PySem L2 PV Qu LX
open Classical
variable {d : Nat} [NSq d]
def wdt (h : Nat → Q d) (t : Nt d) : Q d := t.2.2 * (h t.2.1 - h t.1)
def stp (h : Nat → Q d) (s : Nat → Q d) (t : Nt d) : Nat → Q d := upd1 (upd1 s t.2.1 (s t.2.1 + wdt h t)) t.1 (upd1 s t.2.1 (s t.2.1 + wdt h t) t.1 - wdt h t)
theorem stp_en (h s : Nat → Q d) (t : Nt d) (l : Nat) : stp h s t l = s l + t.2.2 * ((dl l t.1 - dl l t.2.1) * (h t.1 - h t.2.1)) := by
  have e1 : dl (d := d) l t.1 = if l = t.1 then 1 else 0 := by
    unfold dl
    by_cases c : l = t.1
    · rw [if_pos c, if_pos c.symm]
    · rw [if_neg c, if_neg fun z => c z.symm]
  have e2 : dl (d := d) l t.2.1 = if l = t.2.1 then 1 else 0 := by
    unfold dl
    by_cases c : l = t.2.1
    · rw [if_pos c, if_pos c.symm]
    · rw [if_neg c, if_neg fun z => c z.symm]
  rw [e1, e2]
  unfold stp upd1 wdt
  by_cases c1 : l = t.1
  · rw [if_pos c1, if_pos c1]
    by_cases c2 : t.1 = t.2.1
    · rw [if_pos c2, if_pos (c1.trans c2), c1, c2]; grind
    · rw [if_neg c2, if_neg (fun z => c2 (c1.symm.trans z)), c1]; grind
  · rw [if_neg c1, if_neg c1]
    by_cases c2 : l = t.2.1
    · rw [if_pos c2, if_pos c2, c2]; grind
    · rw [if_neg c2, if_neg c2]; grind
theorem fold_en (h : Nat → Q d) (l : Nat) : ∀ (ts : List (Nt d)) (s : Nat → Q d), ts.foldl (stp h) s l = s l + en (dl l) h ts
  | [], s => by show s l = s l + 0; grind
  | t :: ts, s => by
    rw [List.foldl_cons, fold_en h l ts, stp_en]
    show _ = s l + (_ + _)
    grind
theorem dl_dn (l i : Nat) : Dn 1 1 (dl (d := d) l i) := by
  unfold dl
  split
  · exact dn1
  · exact Dn.zero.mono (by decide +kernel)
theorem c66 (hd : d < 64) (B : Nat) : (d + 2) * B ≤ 66 * B := Nat.mul_le_mul_right _ (by omega)
section
variable {n : Nat} {ts : List (Nt d)} {top : Q d}
/-- a tile's width, what is summed up: their sizes -/
theorem Net.wsz (hd : d < 64) (h : Net n ts) (ht : Dn 12 192 top) : (∀ t ∈ ts, Sz 1420 (wdt (hts n ts top) t)) ∧ ∀ (k l : Nat), Sz 1420 (en (dl l) (hts n ts top) (ts.take k)) := by
  obtain ⟨W, w1, w2, w3⟩ := h.common hd ht
  have n144 := nat_dn (d := d) 144
  have v1 : W * (((144 : Nat) : Int) : Q d) ≠ 0 := fun e => by
    have := nat_ne (d := d) (n := 144) (by decide)
    grind
  have v2 : Dn 1 (2 ^ 680) (W * (((144 : Nat) : Int) : Q d)) := (w2.mul n144).mono (by
    have := c66 hd (2 ^ 660 * 144)
    have e : 66 * (2 ^ 660 * 144) ≤ 2 ^ 680 := by decide +kernel
    exact Nat.le_trans this e)
  have diff : ∀ t ∈ ts, Dn 1 (2 ^ 671) ((hts n ts top t.1 - hts n ts top t.2.1) * W) := fun t hm => by
    obtain ⟨i1, i2⟩ := h.ix t hm
    have := (w3 _ i1).sub (w3 _ i2)
    rw [show (hts n ts top t.1 - hts n ts top t.2.1) * W = hts n ts top t.1 * W - hts n ts top t.2.1 * W by grind]
    exact this.mono (by decide +kernel)
  have prod : ∀ t ∈ ts, Dn 1 (2 ^ 700) (t.2.2 * (hts n ts top t.1 - hts n ts top t.2.1) * (W * (((144 : Nat) : Int) : Q d))) := fun t hm => by
    have := (dn_int (h.dn t hm)).mul (diff t hm)
    rw [show t.2.2 * (hts n ts top t.1 - hts n ts top t.2.1) * (W * (((144 : Nat) : Int) : Q d)) = t.2.2 * (((144 : Nat) : Int) : Q d) * ((hts n ts top t.1 - hts n ts top t.2.1) * W) by grind]
    refine this.mono ?_
    have := c66 hd (BS * 2 ^ 671)
    have e : 66 * (BS * 2 ^ 671) ≤ 2 ^ 700 := by decide +kernel
    exact Nat.le_trans this e
  have q : ∀ {x : Q d}, Dn 1 (2 ^ 720) (x * (W * (((144 : Nat) : Int) : Q d))) → Sz 1420 x := fun {x} hx => quot_sz rfl v1 hx v2 (by
    have := c66 hd (2 ^ 720 * 2 ^ 680)
    have e : 66 * (2 ^ 720 * 2 ^ 680) < 2 ^ 1420 := by decide +kernel
    exact Nat.lt_of_le_of_lt this e) (by
    have := c66 hd (2 ^ 680 * 2 ^ 680)
    have e : 66 * (2 ^ 680 * 2 ^ 680) < 2 ^ 1420 := by decide +kernel
    exact Nat.lt_of_le_of_lt this e)
  have term : ∀ t ∈ ts, ∀ l, Dn 1 (2 ^ 710) (t.2.2 * ((dl l t.1 - dl l t.2.1) * (hts n ts top t.1 - hts n ts top t.2.1)) * (W * (((144 : Nat) : Int) : Q d))) := fun t hm l => by
    have := ((dl_dn l t.1).sub (dl_dn l t.2.1)).mul (prod t hm)
    rw [show t.2.2 * ((dl l t.1 - dl l t.2.1) * (hts n ts top t.1 - hts n ts top t.2.1)) * (W * (((144 : Nat) : Int) : Q d)) = (dl l t.1 - dl l t.2.1) * (t.2.2 * (hts n ts top t.1 - hts n ts top t.2.1) * (W * (((144 : Nat) : Int) : Q d))) by grind]
    refine this.mono ?_
    have := c66 hd ((1 + 1) * 2 ^ 700)
    have e : 66 * ((1 + 1) * 2 ^ 700) ≤ 2 ^ 710 := by decide +kernel
    exact Nat.le_trans this e
  refine ⟨fun t hm => q ?_, fun k l => q ?_⟩
  · unfold wdt
    rw [show t.2.2 * (hts n ts top t.2.1 - hts n ts top t.1) * (W * (((144 : Nat) : Int) : Q d)) = -(t.2.2 * (hts n ts top t.1 - hts n ts top t.2.1) * (W * (((144 : Nat) : Int) : Q d))) by grind]
    exact (prod t hm).neg.mono (by decide +kernel)
  · have go : ∀ us : List (Nt d), (∀ t ∈ us, t ∈ ts) → Dn 1 (us.length * 2 ^ 710) (en (dl l) (hts n ts top) us * (W * (((144 : Nat) : Int) : Q d))) := fun us => by
      induction us with
      | nil => exact fun _ => (by
          show Dn 1 (0 * 2 ^ 710) ((0 : Q d) * _)
          rw [Nat.zero_mul, show (0 : Q d) * (W * (((144 : Nat) : Int) : Q d)) = 0 by grind]
          exact Dn.zero)
      | cons t us ih =>
        intro hu
        have h1 := term t (hu t List.mem_cons_self) l
        have h2 := ih fun u hu2 => hu u (List.mem_cons_of_mem _ hu2)
        have := h1.add h2
        show Dn 1 _ ((t.2.2 * ((dl l t.1 - dl l t.2.1) * (hts n ts top t.1 - hts n ts top t.2.1)) + en (dl l) (hts n ts top) us) * _)
        rw [show ∀ a b c : Q d, (a + b) * c = a * c + b * c from fun a b c => by grind, List.length_cons, Nat.add_mul, Nat.one_mul, Nat.add_comm]
        exact this
    refine (go _ fun t hm => List.mem_of_mem_take hm).mono ?_
    have hl : (ts.take k).length ≤ 12 := by rw [List.length_take]; have := h.len; omega
    have := Nat.mul_le_mul_right (2 ^ 710) hl
    have e : 12 * 2 ^ 710 ≤ 2 ^ 720 := by decide +kernel
    exact Nat.le_trans this e
end
end K81

set_option Elab.async false
set_option linter.all false
set_option maxRecDepth 100000
set_option maxHeartbeats 4000000
set_option exponentiation.threshold 100000
namespace K81
open PySem L2 PV Qu LX
open Classical
variable {d : Nat} [NSq d]
section
variable {n : Nat} {ts : List (Nt d)} {top : Q d}
theorem balanced_aux (hd : d < 64) (h : Net n ts) (ht : Dn 12 192 top) (c : Int) (hc : c = ((n + 2 : Nat) : Int)) : f__law_balanced [.int (d : Int), .int c, .list (ts.map encPt), .list (ts.map fun t => L t.2.2), encR (n + 2) (hts n ts top)] = some (false, .bool true) := by
  have w0 := whole_is (d := d) 0
  have zc : ((0 : Int) : Q d) = 0 := rfl
  rw [zc] at w0
  have n6 := h.n6
  have l12 := h.len
  obtain ⟨zw, ze⟩ := h.wsz hd ht
  have zh : ∀ i, i < n + 2 → Sz 1400 (hts n ts top i) := fun i hi => h.hsz hd ht hi
  have rp := rep_n (L (0 : Q d)) (n := n + 2) (by omega)
  have er := encR_rep (d := d) (n + 2)
  rw [← er, ← hc] at rp
  have hlenT : evBI .len [.list (ts.map encPt)] = some (false, .int (ts.length : Nat)) := hlen ts
  have hr2 : evRng [.int (ts.length : Nat)] = some ((List.range ts.length).map N) := n_rng1 (n := ts.length) (by omega)
  have hbal : ∀ l, 1 ≤ l → l ≤ n → en (dl l) (hts n ts top) ts = 0 := fun l h1 h2 => hts_bal h.ix h.pos h.conn h1 h2
  generalize hH : hts n ts top = H at *
  have fe : ∀ k l, (ts.take k).foldl (stp H) (fun _ => 0) l = en (dl l) H (ts.take k) := fun k l => by rw [fold_en]; grind
  have main := forGo_do (g := .nm 6) (f := blk FUEL ib__law_balanced_1) N (fun pre ρ => ∃ s6 s7 s8 s9, ρ = [sI (d : Int), sI c, some (false, .list (ts.map encPt)), some (false, .list (ts.map fun t => L t.2.2)), some (false, encR (n + 2) H), some (true, encR (n + 2) ((ts.take pre.length).foldl (stp H) fun _ => 0)), s6, s7, s8, s9, none]) (l := List.range ts.length)
    (ρ := [sI (d : Int), sI c, some (false, .list (ts.map encPt)), some (false, .list (ts.map fun t => L t.2.2)), some (false, encR (n + 2) H), some (true, encR (n + 2) fun _ => (0 : Q d)), none, none, none, none, none]) ⟨none, none, none, none, rfl⟩ (by
    rintro pre k suf ρ hk ⟨s6, s7, s8, s9, rfl⟩
    obtain ⟨e, hl⟩ := hrange0 hk
    subst e
    have x1 := hix (en := encPt (d := d)) hl
    have x2 := hix (en := fun t : Nt d => L t.2.2) hl
    obtain ⟨i1, i2⟩ := h.ix ts[pre.length] (List.getElem_mem hl)
    have tk : ts.take (pre.length + 1) = ts.take pre.length ++ [ts[pre.length]] := by rw [List.take_succ, List.getElem?_eq_getElem hl]; rfl
    have hN : (ts.take (pre.length + 1)).foldl (stp H) (fun _ => 0) = stp H ((ts.take pre.length).foldl (stp H) fun _ => 0) ts[pre.length] := by
      rw [tk, List.foldl_append]; rfl
    have zs : ∀ l, Sz 1420 ((ts.take pre.length).foldl (stp H) (fun _ => 0) l) := fun l => by rw [fe]; exact ze _ _
    have zt := zw ts[pre.length] (List.getElem_mem hl)
    have zd : Sz 30 ts[pre.length].2.2 := (h.dn _ (List.getElem_mem hl)).sz (by decide) (by decide) (by decide)
    generalize (ts.take pre.length).foldl (stp H) (fun _ => 0) = s at *
    generalize ts[pre.length] = t at *
    have e1 := law_minus_is (zh t.2.1 i2) (zh t.1 i1) (by decide)
    have e2 := law_times_is hd zd (minus_sz (zh t.2.1 i2) (zh t.1 i1)) (by decide)
    have e2 : f__law_times [.int (d : Int), L t.2.2, L (H t.2.1 - H t.1)] = some (false, L (wdt H t)) := e2
    have y1 := ixR (n := n + 2) (f := H) i2
    have y2 := ixR (n := n + 2) (f := H) i1
    have y3 := ixR (n := n + 2) (f := s) i2
    have e3 := law_plus_is (zs t.2.1) zt (by decide)
    have p1 := putR s (s t.2.1 + wdt H t) i2
    have y4 := ixR (n := n + 2) (f := upd1 s t.2.1 (s t.2.1 + wdt H t)) i1
    have z4 : Sz 2841 (upd1 s t.2.1 (s t.2.1 + wdt H t) t.1) := by
      unfold upd1
      split
      · exact plus_sz (zs _) zt
      · exact (zs _).mono (by decide +kernel)
    have e4 := law_minus_is z4 zt (by decide)
    have p2 := putR (upd1 s t.2.1 (s t.2.1 + wdt H t)) (upd1 s t.2.1 (s t.2.1 + wdt H t) t.1 - wdt H t) i1
    have ap : ∀ (g1 g2 : G) (ρ : Sl), asg (.two g1 g2) (encPt t) ρ = (asg g1 (.int (t.1 : Int)) ρ).bind fun ρ1 => asg g2 (.int (t.2.1 : Int)) ρ1 := fun g1 g2 ρ => Eq.trans rfl (Eq.refl _)
    refine ⟨_, _, rfl, ?_, sI (pre.length : Int), sI (t.1 : Int), sI (t.2.1 : Int), sQ (wdt H t), by rw [List.length_append, List.length_singleton, hN]⟩
    show evSs FUEL ib__law_balanced_1 [sI (d : Int), sI c, some (false, .list (ts.map encPt)), some (false, .list (ts.map fun t => L t.2.2)), some (false, encR (n + 2) H), some (true, encR (n + 2) s), sI (pre.length : Int), s7, s8, s9, none] = _
    have es : ∀ f : Nat → Q d, encR (n + 2) f = .list ((List.range (n + 2)).map fun j => L (f j)) := fun f => rfl
    show _ = some (Out.nx [sI (d : Int), sI c, some (false, .list (ts.map encPt)), some (false, .list (ts.map fun t => L t.2.2)), some (false, encR (n + 2) H), some (true, encR (n + 2) (upd1 (upd1 s t.2.1 (s t.2.1 + wdt H t)) t.1 (upd1 s t.2.1 (s t.2.1 + wdt H t) t.1 - wdt H t))), sI (pre.length : Int), sI (t.1 : Int), sI (t.2.1 : Int), sQ (wdt H t), none])
    rw [es] at y1 y2 y3 y4 ⊢
    rw [es s, es (upd1 _ t.1 _)]
    unfold ib__law_balanced_1
    simp only [q_wipeR_1, q_wipeR_2, q_asg_1, q_asg_2, q_asg_3, q_asg_4, q_asg_5, q_asg_6, q_asg_7, q_asgR_1, q_ownedArg_1, q_ownedArgs_1, q_ownedArgs_2, q_itemsOf_1, q_itemsOf_2, q_evE_1, q_evE_2, q_evE_3, q_evE_4, q_evE_5, q_evE_6, q_evE_7, q_evE_8, q_evE_9, q_evE_10, q_evE_11, q_evE_12, q_evE_13, q_evE_14, q_evE_15, q_evE_16, q_evE_17, q_evE_18, q_evE_19, q_evE_20, q_evE_21, q_evE_22, q_evE_23, q_evE_24, q_evE_25, q_evEs_1, q_evEs_2, q_evP_1, q_evP_2, q_evC_1, q_evC_2, q_evI_1, q_evI_2, q_evRet_1, q_evS_1, q_evS_2, q_evS_3, q_evS_4, q_evS_5, q_evS_6, q_evS_7, q_evS_8, q_evS_9, q_evS_10, q_evS_11, q_evS_12, q_evS_13, q_evS_14, q_evS_15, q_evS_16, q_evS_17, q_evS_18, q_evS_19, q_evS_20, q_evS_21, q_evSs_1, q_evSs_2, q_oa_0, q_rt_0, q_oa_1, q_rt_1, q_oa_2, q_rt_2, q_oa_3, q_rt_3, q_oa_4, q_rt_4, q_oa_5, q_rt_5, q_oa_6, q_rt_6, q_oa_7, q_rt_7, q_oa_8, q_rt_8, q_oa_9, q_rt_9, q_oa_10, q_rt_10, q_oa_11, q_rt_11, q_oa_12, q_rt_12, q_oa_13, q_rt_13, q_oa_14, q_rt_14, q_oa_15, q_rt_15, q_oa_16, q_rt_16, q_oa_17, q_rt_17, q_oa_18, q_rt_18, q_oa_19, q_rt_19, q_oa_20, q_rt_20, q_oa_21, q_rt_21, q_oa_22, q_rt_22, q_oa_23, q_rt_23, q_ar_0, q_ar_1, q_ar_2, asI_i, q_less1, q_less2, q_less3, q_slot, q_rows, q_dict, q_asInt, q_listIt, q_rowR, q_ret, q_bind, q_bindn, q_map, q_mapn, q_evT, q_own, startR, List.getElem?_cons_succ, List.getElem?_cons_zero, List.set_cons_succ, List.set_cons_zero, List.map_cons, List.map_nil, List.replicate, List.length_cons, List.length_nil, List.append_eq, List.nil_append, List.cons_append, Bool.and_true, Bool.true_and, Bool.and_false, Bool.false_and, Bool.not_true, Bool.not_false, if_true, if_false, reduceCtorEq, Nat.reduceSub, Nat.reduceAdd, Nat.reduceLeDiff, Bool.false_eq_true, Bool.or_false, Bool.false_or, ite_true, ite_false, lenOk_0, lenOk_1, lenOk_2, lenOk_3, lenOk_4, lenOk_5, lenOk_6, lenOk_7, lenOk_8, i_add, i_sub, i_neg, i_asI, N_int, i_inti, i_intb, decide_true, decide_false, x1, ap, x2, y1, y2, e1, e2, y3, e3, p1, y4, e4, p2])
  obtain ⟨ρ', e1, s6, s7, s8, s9, rfl⟩ := main
  rw [List.length_range] at e1
  have i1 : (c - 1) = ((n + 1 : Nat) : Int) := by omega
  have hr : evRng [.int 1, .int ((n + 1 : Nat) : Int)] = some ((List.range' 1 n).map N) := n_rng2 (a := 1) (b := n + 1) (by decide) (by omega)
  have hz : ∀ l, 1 ≤ l → l ≤ n → (ts.take ts.length).foldl (stp H) (fun _ => 0) l = 0 := fun l h1 h2 => by rw [fe, List.take_length, hbal l h1 h2]
  generalize (ts.take ts.length).foldl (stp H) (fun _ => 0) = sF at *
  have cmp : ∀ (b : Bool), evE ic__law_balanced_2 b [sI (d : Int), sI c, some (false, .list (ts.map encPt)), some (false, .list (ts.map fun t => L t.2.2)), some (false, encR (n + 2) H), some (true, .list ((List.range (n + 2)).map fun j => L (sF j))), s6, s7, s8, s9, none] = some (true, .list []) := fun b => by
    unfold ic__law_balanced_2
    simp only [q_wipeR_1, q_wipeR_2, q_asg_1, q_asg_2, q_asg_3, q_asg_4, q_asg_5, q_asg_6, q_asg_7, q_asgR_1, q_ownedArg_1, q_ownedArgs_1, q_ownedArgs_2, q_itemsOf_1, q_itemsOf_2, q_evE_1, q_evE_2, q_evE_3, q_evE_4, q_evE_5, q_evE_6, q_evE_7, q_evE_8, q_evE_9, q_evE_10, q_evE_11, q_evE_12, q_evE_13, q_evE_14, q_evE_15, q_evE_16, q_evE_17, q_evE_18, q_evE_19, q_evE_20, q_evE_21, q_evE_22, q_evE_23, q_evE_24, q_evE_25, q_evEs_1, q_evEs_2, q_evP_1, q_evP_2, q_evC_1, q_evC_2, q_evI_1, q_evI_2, q_evRet_1, q_evS_1, q_evS_2, q_evS_3, q_evS_4, q_evS_5, q_evS_6, q_evS_7, q_evS_8, q_evS_9, q_evS_10, q_evS_11, q_evS_12, q_evS_13, q_evS_14, q_evS_15, q_evS_16, q_evS_17, q_evS_18, q_evS_19, q_evS_20, q_evS_21, q_evSs_1, q_evSs_2, q_oa_0, q_rt_0, q_oa_1, q_rt_1, q_oa_2, q_rt_2, q_oa_3, q_rt_3, q_oa_4, q_rt_4, q_oa_5, q_rt_5, q_oa_6, q_rt_6, q_oa_7, q_rt_7, q_oa_8, q_rt_8, q_oa_9, q_rt_9, q_oa_10, q_rt_10, q_oa_11, q_rt_11, q_oa_12, q_rt_12, q_oa_13, q_rt_13, q_oa_14, q_rt_14, q_oa_15, q_rt_15, q_oa_16, q_rt_16, q_oa_17, q_rt_17, q_oa_18, q_rt_18, q_oa_19, q_rt_19, q_oa_20, q_rt_20, q_oa_21, q_rt_21, q_oa_22, q_rt_22, q_oa_23, q_rt_23, q_ar_0, q_ar_1, q_ar_2, asI_i, q_less1, q_less2, q_less3, q_slot, q_rows, q_dict, q_asInt, q_listIt, q_rowR, q_ret, q_bind, q_bindn, q_map, q_mapn, q_evT, q_own, startR, List.getElem?_cons_succ, List.getElem?_cons_zero, List.set_cons_succ, List.set_cons_zero, List.map_cons, List.map_nil, List.replicate, List.length_cons, List.length_nil, List.append_eq, List.nil_append, List.cons_append, Bool.and_true, Bool.true_and, Bool.and_false, Bool.false_and, Bool.not_true, Bool.not_false, if_true, if_false, reduceCtorEq, Nat.reduceSub, Nat.reduceAdd, Nat.reduceLeDiff, Bool.false_eq_true, Bool.or_false, Bool.false_or, ite_true, ite_false, lenOk_0, lenOk_1, lenOk_2, lenOk_3, lenOk_4, lenOk_5, lenOk_6, lenOk_7, lenOk_8, i_add, i_sub, i_neg, i_asI, N_int, i_inti, i_intb, decide_true, decide_false, i1, hr]
    rw [compGo_map (enc := N) (en2 := N) (fun j : Nat => none)]
    · have : (List.range' 1 n).filterMap (fun _ : Nat => (none : Option Nat)) = [] := by
        rw [List.filterMap_eq_nil_iff]; intro _ _; rfl
      rw [this]; rfl
    · intro j hj
      rw [List.mem_range'_1] at hj
      have y := ixR (n := n + 2) (f := sF) (j := j) (by omega)
      rw [hz j hj.1 (by omega)] at y
      have y : evIx (.list ((List.range (n + 2)).map fun j => L (sF j))) (.int (j : Int)) = some (false, L 0) := y
      simp only [q_wipeR_1, q_wipeR_2, q_asg_1, q_asg_2, q_asg_3, q_asg_4, q_asg_5, q_asg_6, q_asg_7, q_asgR_1, q_ownedArg_1, q_ownedArgs_1, q_ownedArgs_2, q_itemsOf_1, q_itemsOf_2, q_evE_1, q_evE_2, q_evE_3, q_evE_4, q_evE_5, q_evE_6, q_evE_7, q_evE_8, q_evE_9, q_evE_10, q_evE_11, q_evE_12, q_evE_13, q_evE_14, q_evE_15, q_evE_16, q_evE_17, q_evE_18, q_evE_19, q_evE_20, q_evE_21, q_evE_22, q_evE_23, q_evE_24, q_evE_25, q_evEs_1, q_evEs_2, q_evP_1, q_evP_2, q_evC_1, q_evC_2, q_evI_1, q_evI_2, q_evRet_1, q_evS_1, q_evS_2, q_evS_3, q_evS_4, q_evS_5, q_evS_6, q_evS_7, q_evS_8, q_evS_9, q_evS_10, q_evS_11, q_evS_12, q_evS_13, q_evS_14, q_evS_15, q_evS_16, q_evS_17, q_evS_18, q_evS_19, q_evS_20, q_evS_21, q_evSs_1, q_evSs_2, q_oa_0, q_rt_0, q_oa_1, q_rt_1, q_oa_2, q_rt_2, q_oa_3, q_rt_3, q_oa_4, q_rt_4, q_oa_5, q_rt_5, q_oa_6, q_rt_6, q_oa_7, q_rt_7, q_oa_8, q_rt_8, q_oa_9, q_rt_9, q_oa_10, q_rt_10, q_oa_11, q_rt_11, q_oa_12, q_rt_12, q_oa_13, q_rt_13, q_oa_14, q_rt_14, q_oa_15, q_rt_15, q_oa_16, q_rt_16, q_oa_17, q_rt_17, q_oa_18, q_rt_18, q_oa_19, q_rt_19, q_oa_20, q_rt_20, q_oa_21, q_rt_21, q_oa_22, q_rt_22, q_oa_23, q_rt_23, q_ar_0, q_ar_1, q_ar_2, asI_i, q_less1, q_less2, q_less3, q_slot, q_rows, q_dict, q_asInt, q_listIt, q_rowR, q_ret, q_bind, q_bindn, q_map, q_mapn, q_evT, q_own, startR, List.getElem?_cons_succ, List.getElem?_cons_zero, List.set_cons_succ, List.set_cons_zero, List.map_cons, List.map_nil, List.replicate, List.length_cons, List.length_nil, List.append_eq, List.nil_append, List.cons_append, Bool.and_true, Bool.true_and, Bool.and_false, Bool.false_and, Bool.not_true, Bool.not_false, if_true, if_false, reduceCtorEq, Nat.reduceSub, Nat.reduceAdd, Nat.reduceLeDiff, Bool.false_eq_true, Bool.or_false, Bool.false_or, ite_true, ite_false, lenOk_0, lenOk_1, lenOk_2, lenOk_3, lenOk_4, lenOk_5, lenOk_6, lenOk_7, lenOk_8, i_add, i_sub, i_neg, i_asI, N_int, i_inti, i_intb, decide_true, decide_false, y, w0, L_ne]
  have es : encR (n + 2) sF = .list ((List.range (n + 2)).map fun j => L (sF j)) := rfl
  rw [es] at e1
  have n0 : evCmp .eq (.list []) (.list []) = some true := rfl
  unfold f__law_balanced evDef ir__law_balanced
  simp only [q_wipeR_1, q_wipeR_2, q_asg_1, q_asg_2, q_asg_3, q_asg_4, q_asg_5, q_asg_6, q_asg_7, q_asgR_1, q_ownedArg_1, q_ownedArgs_1, q_ownedArgs_2, q_itemsOf_1, q_itemsOf_2, q_evE_1, q_evE_2, q_evE_3, q_evE_4, q_evE_5, q_evE_6, q_evE_7, q_evE_8, q_evE_9, q_evE_10, q_evE_11, q_evE_12, q_evE_13, q_evE_14, q_evE_15, q_evE_16, q_evE_17, q_evE_18, q_evE_19, q_evE_20, q_evE_21, q_evE_22, q_evE_23, q_evE_24, q_evE_25, q_evEs_1, q_evEs_2, q_evP_1, q_evP_2, q_evC_1, q_evC_2, q_evI_1, q_evI_2, q_evRet_1, q_evS_1, q_evS_2, q_evS_3, q_evS_4, q_evS_5, q_evS_6, q_evS_7, q_evS_8, q_evS_9, q_evS_10, q_evS_11, q_evS_12, q_evS_13, q_evS_14, q_evS_15, q_evS_16, q_evS_17, q_evS_18, q_evS_19, q_evS_20, q_evS_21, q_evSs_1, q_evSs_2, q_oa_0, q_rt_0, q_oa_1, q_rt_1, q_oa_2, q_rt_2, q_oa_3, q_rt_3, q_oa_4, q_rt_4, q_oa_5, q_rt_5, q_oa_6, q_rt_6, q_oa_7, q_rt_7, q_oa_8, q_rt_8, q_oa_9, q_rt_9, q_oa_10, q_rt_10, q_oa_11, q_rt_11, q_oa_12, q_rt_12, q_oa_13, q_rt_13, q_oa_14, q_rt_14, q_oa_15, q_rt_15, q_oa_16, q_rt_16, q_oa_17, q_rt_17, q_oa_18, q_rt_18, q_oa_19, q_rt_19, q_oa_20, q_rt_20, q_oa_21, q_rt_21, q_oa_22, q_rt_22, q_oa_23, q_rt_23, q_ar_0, q_ar_1, q_ar_2, asI_i, q_less1, q_less2, q_less3, q_slot, q_rows, q_dict, q_asInt, q_listIt, q_rowR, q_ret, q_bind, q_bindn, q_map, q_mapn, q_evT, q_own, startR, List.getElem?_cons_succ, List.getElem?_cons_zero, List.set_cons_succ, List.set_cons_zero, List.map_cons, List.map_nil, List.replicate, List.length_cons, List.length_nil, List.append_eq, List.nil_append, List.cons_append, Bool.and_true, Bool.true_and, Bool.and_false, Bool.false_and, Bool.not_true, Bool.not_false, if_true, if_false, reduceCtorEq, Nat.reduceSub, Nat.reduceAdd, Nat.reduceLeDiff, Bool.false_eq_true, Bool.or_false, Bool.false_or, ite_true, ite_false, lenOk_0, lenOk_1, lenOk_2, lenOk_3, lenOk_4, lenOk_5, lenOk_6, lenOk_7, lenOk_8, i_add, i_sub, i_neg, i_asI, N_int, i_inti, i_intb, decide_true, decide_false, w0, rp, hlenT, hr2, e1, cmp, n0]
theorem balanced_is (hd : d < 64) (h : Net n ts) (ht : Dn 12 192 top) : f__law_balanced [.int (d : Int), .int ((n + 2 : Nat) : Int), .list (ts.map encPt), .list (ts.map fun t => L t.2.2), encR (n + 2) (hts n ts top)] = some (false, .bool true) :=
  balanced_aux hd h ht _ rfl
end
end K81

set_option Elab.async false
set_option linter.all false
set_option maxRecDepth 100000
set_option maxHeartbeats 4000000
namespace K81
open PySem L2 PV Qu LX
open Classical
variable {d : Nat} [NSq d]
theorem ixR_last (m : Nat) (f : Nat → Q d) : evIx (encR (m + 1) f) (.int (-1)) = some (false, L (f m)) := by
  show (L2.atI ((List.range (m + 1)).map fun j => L (f j)) (-1)).map _ = _
  unfold L2.atI L2.ixN
  rw [List.length_map, List.length_range, if_neg (by decide), if_pos (by omega)]
  show Option.map _ (((List.range (m + 1)).map fun j => L (f j))[((-1 : Int) + ((m + 1 : Nat) : Int)).toNat]?) = _
  rw [show ((-1 : Int) + ((m + 1 : Nat) : Int)).toNat = m by omega, List.getElem?_map, List.getElem?_range (by omega)]
  rfl
theorem hd_pt (t : Nt d) : Hd 1 (encPt t) := hd_tuple (k := 0) (hd_cons (hd_int _) (hd_cons (hd_int _) hd_nil))
theorem hd_R (n : Nat) (f : Nat → Q d) : Hd 2 (encR n f) := hd_list (hd_map fun j => hd_L (f j))
section
variable {n : Nat} {ts : List (Nt d)} {top : Q d}
theorem told_is (hd : d < 64) (h : Net n ts) (ht : Dn 12 192 top) (c : Int) (hc : c = ((n + 2 : Nat) : Int)) : f__law_told [.int (d : Int), .int c, .list (ts.map encPt), .list (ts.map fun t => L t.2.2), L top] = some (true, encR (n + 2) (hts n ts top)) := by
  have w0 := whole_is (d := d) 0
  have zc : ((0 : Int) : Q d) = 0 := rfl
  rw [zc] at w0
  have eh := h.heights hd ht
  rw [← hc] at eh
  have bal := balanced_aux hd h ht c hc
  obtain ⟨he0, he1⟩ := hts_ends (n := n) (ts := ts) (top := top)
  have zh : ∀ i, i < n + 2 → Sz 1400 (hts n ts top i) := fun i hi => h.hsz hd ht hi
  have n6 := h.n6
  generalize hts n ts top = H at *
  have x0 := ixR (n := n + 2) (f := H) (j := 0) (by omega)
  rw [he0] at x0
  have x1 := ixR_last (n + 1) H
  rw [he1] at x1
  have ln := lenR (n := n + 2) (f := H)
  have cd : decide (((n + 2 : Nat) : Int) = c) = true := decide_eq_true hc.symm
  have b1 : evBI .list [.list (ts.map encPt)] = some (true, .list (ts.map encPt)) := rfl
  have b2 : evBI .list [.list (ts.map fun t => L t.2.2)] = some (true, .list (ts.map fun t => L t.2.2)) := rfl
  have ne1 : evCmp .ne (.list [.list (ts.map encPt), .list (ts.map fun t => L t.2.2)]) (.list [.list (ts.map encPt), .list (ts.map fun t => L t.2.2)]) = some false :=
    hd_ne_self (k := 3) (hd_list (hd_cons (hd_list (hd_map hd_pt)) (hd_cons (hd_list (hd_map fun t : Nt d => hd_L t.2.2)) hd_nil))) (by decide)
  have es : encR (n + 2) H = .list ((List.range (n + 2)).map fun j => L (H j)) := rfl
  have cmp : ∀ (b : Bool) (s0 s1 s2 s3 s4 s5 s8 : Option PV.R), evE ic__law_told_1 b [s0, s1, s2, s3, s4, s5, some (true, .list ((List.range (n + 2)).map fun j => L (H j))), none, s8] = some (true, .list []) := fun b s0 s1 s2 s3 s4 s5 s8 => by
    unfold ic__law_told_1
    simp only [q_wipeR_1, q_wipeR_2, q_asg_1, q_asg_2, q_asg_3, q_asg_4, q_asg_5, q_asg_6, q_asg_7, q_asgR_1, q_ownedArg_1, q_ownedArgs_1, q_ownedArgs_2, q_itemsOf_1, q_itemsOf_2, q_evE_1, q_evE_2, q_evE_3, q_evE_4, q_evE_5, q_evE_6, q_evE_7, q_evE_8, q_evE_9, q_evE_10, q_evE_11, q_evE_12, q_evE_13, q_evE_14, q_evE_15, q_evE_16, q_evE_17, q_evE_18, q_evE_19, q_evE_20, q_evE_21, q_evE_22, q_evE_23, q_evE_24, q_evE_25, q_evEs_1, q_evEs_2, q_evP_1, q_evP_2, q_evC_1, q_evC_2, q_evI_1, q_evI_2, q_evRet_1, q_evS_1, q_evS_2, q_evS_3, q_evS_4, q_evS_5, q_evS_6, q_evS_7, q_evS_8, q_evS_9, q_evS_10, q_evS_11, q_evS_12, q_evS_13, q_evS_14, q_evS_15, q_evS_16, q_evS_17, q_evS_18, q_evS_19, q_evS_20, q_evS_21, q_evSs_1, q_evSs_2, q_oa_0, q_rt_0, q_oa_1, q_rt_1, q_oa_2, q_rt_2, q_oa_3, q_rt_3, q_oa_4, q_rt_4, q_oa_5, q_rt_5, q_oa_6, q_rt_6, q_oa_7, q_rt_7, q_oa_8, q_rt_8, q_oa_9, q_rt_9, q_oa_10, q_rt_10, q_oa_11, q_rt_11, q_oa_12, q_rt_12, q_oa_13, q_rt_13, q_oa_14, q_rt_14, q_oa_15, q_rt_15, q_oa_16, q_rt_16, q_oa_17, q_rt_17, q_oa_18, q_rt_18, q_oa_19, q_rt_19, q_oa_20, q_rt_20, q_oa_21, q_rt_21, q_oa_22, q_rt_22, q_oa_23, q_rt_23, q_ar_0, q_ar_1, q_ar_2, asI_i, q_less1, q_less2, q_less3, q_slot, q_rows, q_dict, q_asInt, q_listIt, q_rowR, q_ret, q_bind, q_bindn, q_map, q_mapn, q_evT, q_own, startR, List.getElem?_cons_succ, List.getElem?_cons_zero, List.set_cons_succ, List.set_cons_zero, List.map_cons, List.map_nil, List.replicate, List.length_cons, List.length_nil, List.append_eq, List.nil_append, List.cons_append, Bool.and_true, Bool.true_and, Bool.and_false, Bool.false_and, Bool.not_true, Bool.not_false, if_true, if_false, reduceCtorEq, Nat.reduceSub, Nat.reduceAdd, Nat.reduceLeDiff, Bool.false_eq_true, Bool.or_false, Bool.false_or, ite_true, ite_false, lenOk_0, lenOk_1, lenOk_2, lenOk_3, lenOk_4, lenOk_5, lenOk_6, lenOk_7, lenOk_8, i_add, i_sub, i_neg, i_asI, N_int, i_inti, i_intb, decide_true, decide_false]
    rw [compGo_map (enc := fun j : Nat => L (H j)) (en2 := N) (fun j : Nat => none)]
    · have : (List.range (n + 2)).filterMap (fun _ : Nat => (none : Option Nat)) = [] := by
        rw [List.filterMap_eq_nil_iff]; intro _ _; rfl
      rw [this]; rfl
    · intro j hj
      rw [List.mem_range] at hj
      have e := law_is_length_is (zh j hj) (by decide)
      simp only [q_wipeR_1, q_wipeR_2, q_asg_1, q_asg_2, q_asg_3, q_asg_4, q_asg_5, q_asg_6, q_asg_7, q_asgR_1, q_ownedArg_1, q_ownedArgs_1, q_ownedArgs_2, q_itemsOf_1, q_itemsOf_2, q_evE_1, q_evE_2, q_evE_3, q_evE_4, q_evE_5, q_evE_6, q_evE_7, q_evE_8, q_evE_9, q_evE_10, q_evE_11, q_evE_12, q_evE_13, q_evE_14, q_evE_15, q_evE_16, q_evE_17, q_evE_18, q_evE_19, q_evE_20, q_evE_21, q_evE_22, q_evE_23, q_evE_24, q_evE_25, q_evEs_1, q_evEs_2, q_evP_1, q_evP_2, q_evC_1, q_evC_2, q_evI_1, q_evI_2, q_evRet_1, q_evS_1, q_evS_2, q_evS_3, q_evS_4, q_evS_5, q_evS_6, q_evS_7, q_evS_8, q_evS_9, q_evS_10, q_evS_11, q_evS_12, q_evS_13, q_evS_14, q_evS_15, q_evS_16, q_evS_17, q_evS_18, q_evS_19, q_evS_20, q_evS_21, q_evSs_1, q_evSs_2, q_oa_0, q_rt_0, q_oa_1, q_rt_1, q_oa_2, q_rt_2, q_oa_3, q_rt_3, q_oa_4, q_rt_4, q_oa_5, q_rt_5, q_oa_6, q_rt_6, q_oa_7, q_rt_7, q_oa_8, q_rt_8, q_oa_9, q_rt_9, q_oa_10, q_rt_10, q_oa_11, q_rt_11, q_oa_12, q_rt_12, q_oa_13, q_rt_13, q_oa_14, q_rt_14, q_oa_15, q_rt_15, q_oa_16, q_rt_16, q_oa_17, q_rt_17, q_oa_18, q_rt_18, q_oa_19, q_rt_19, q_oa_20, q_rt_20, q_oa_21, q_rt_21, q_oa_22, q_rt_22, q_oa_23, q_rt_23, q_ar_0, q_ar_1, q_ar_2, asI_i, q_less1, q_less2, q_less3, q_slot, q_rows, q_dict, q_asInt, q_listIt, q_rowR, q_ret, q_bind, q_bindn, q_map, q_mapn, q_evT, q_own, startR, List.getElem?_cons_succ, List.getElem?_cons_zero, List.set_cons_succ, List.set_cons_zero, List.map_cons, List.map_nil, List.replicate, List.length_cons, List.length_nil, List.append_eq, List.nil_append, List.cons_append, Bool.and_true, Bool.true_and, Bool.and_false, Bool.false_and, Bool.not_true, Bool.not_false, if_true, if_false, reduceCtorEq, Nat.reduceSub, Nat.reduceAdd, Nat.reduceLeDiff, Bool.false_eq_true, Bool.or_false, Bool.false_or, ite_true, ite_false, lenOk_0, lenOk_1, lenOk_2, lenOk_3, lenOk_4, lenOk_5, lenOk_6, lenOk_7, lenOk_8, i_add, i_sub, i_neg, i_asI, N_int, i_inti, i_intb, decide_true, decide_false, e]
  have n0 : evCmp .ne (.list []) (.list []) = some false := rfl
  have n1 := hd_ne_self (hd_R (n + 2) H) (by decide)
  rw [es] at eh x0 x1 ln bal n1
  have x0 : evIx (.list ((List.range (n + 2)).map fun j => L (H j))) (.int 0) = some (false, L 0) := x0
  have ix0 : evIx (.list [.list (ts.map encPt), .list (ts.map fun t => L t.2.2)]) (.int 0) = some (false, .list (ts.map encPt)) := ix_l0
  have ix1 : evIx (.list [.list (ts.map encPt), .list (ts.map fun t => L t.2.2)]) (.int 1) = some (false, .list (ts.map fun t => L t.2.2)) := ix_l1
  have isl : evBI .isList [.list ((List.range (n + 2)).map fun j => L (H j))] = some (false, .bool true) := rfl
  have b3 : evBI .list [.list ((List.range (n + 2)).map fun j => L (H j))] = some (true, .list ((List.range (n + 2)).map fun j => L (H j))) := rfl
  have lk : lenOk (((List.range (n + 2)).map fun j => L (H j)).length + 1) = true := lenOk_of (by rw [List.length_map, List.length_range]; omega)
  have nb : nolistR (false, PyData.bool true) = true := rfl
  rw [es]
  unfold f__law_told evDef ir__law_told
  simp only [q_wipeR_1, q_wipeR_2, q_asg_1, q_asg_2, q_asg_3, q_asg_4, q_asg_5, q_asg_6, q_asg_7, q_asgR_1, q_ownedArg_1, q_ownedArgs_1, q_ownedArgs_2, q_itemsOf_1, q_itemsOf_2, q_evE_1, q_evE_2, q_evE_3, q_evE_4, q_evE_5, q_evE_6, q_evE_7, q_evE_8, q_evE_9, q_evE_10, q_evE_11, q_evE_12, q_evE_13, q_evE_14, q_evE_15, q_evE_16, q_evE_17, q_evE_18, q_evE_19, q_evE_20, q_evE_21, q_evE_22, q_evE_23, q_evE_24, q_evE_25, q_evEs_1, q_evEs_2, q_evP_1, q_evP_2, q_evC_1, q_evC_2, q_evI_1, q_evI_2, q_evRet_1, q_evS_1, q_evS_2, q_evS_3, q_evS_4, q_evS_5, q_evS_6, q_evS_7, q_evS_8, q_evS_9, q_evS_10, q_evS_11, q_evS_12, q_evS_13, q_evS_14, q_evS_15, q_evS_16, q_evS_17, q_evS_18, q_evS_19, q_evS_20, q_evS_21, q_evSs_1, q_evSs_2, q_oa_0, q_rt_0, q_oa_1, q_rt_1, q_oa_2, q_rt_2, q_oa_3, q_rt_3, q_oa_4, q_rt_4, q_oa_5, q_rt_5, q_oa_6, q_rt_6, q_oa_7, q_rt_7, q_oa_8, q_rt_8, q_oa_9, q_rt_9, q_oa_10, q_rt_10, q_oa_11, q_rt_11, q_oa_12, q_rt_12, q_oa_13, q_rt_13, q_oa_14, q_rt_14, q_oa_15, q_rt_15, q_oa_16, q_rt_16, q_oa_17, q_rt_17, q_oa_18, q_rt_18, q_oa_19, q_rt_19, q_oa_20, q_rt_20, q_oa_21, q_rt_21, q_oa_22, q_rt_22, q_oa_23, q_rt_23, q_ar_0, q_ar_1, q_ar_2, asI_i, q_less1, q_less2, q_less3, q_slot, q_rows, q_dict, q_asInt, q_listIt, q_rowR, q_ret, q_bind, q_bindn, q_map, q_mapn, q_evT, q_own, startR, List.getElem?_cons_succ, List.getElem?_cons_zero, List.set_cons_succ, List.set_cons_zero, List.map_cons, List.map_nil, List.replicate, List.length_cons, List.length_nil, List.append_eq, List.nil_append, List.cons_append, Bool.and_true, Bool.true_and, Bool.and_false, Bool.false_and, Bool.not_true, Bool.not_false, if_true, if_false, reduceCtorEq, Nat.reduceSub, Nat.reduceAdd, Nat.reduceLeDiff, Bool.false_eq_true, Bool.or_false, Bool.false_or, ite_true, ite_false, lenOk_0, lenOk_1, lenOk_2, lenOk_3, lenOk_4, lenOk_5, lenOk_6, lenOk_7, lenOk_8, i_add, i_sub, i_neg, i_asI, N_int, i_inti, i_intb, decide_true, decide_false, b1, b2, ix0, ix1, eh, ne1, isl, ln, i_ne, cd, cmp, n0, x0, w0, L_ne, i_neg, x1, bal, nb, b3, lk, n1]
end
end K81

set_option Elab.async false
set_option linter.all false
set_option maxRecDepth 100000
set_option maxHeartbeats 4000000
namespace K81
open PySem L2 PV Qu LX
open Classical
def encP2 (p : Nat × Nat) : PyData := .tuple [.int (p.1 : Int), .int (p.2 : Int)]
theorem mod_N {a b : Nat} (h : 0 < b) : evBin .mod (.int (a : Int)) (.int (b : Int)) = some (false, .int ((a % b : Nat) : Int)) := by
  rw [i_mod (by omega)]
  rfl
theorem div_N {a b : Nat} (h : 0 < b) (hb : b < 1000) : evBin .fdiv (.int (a : Int)) (.int (b : Int)) = some (false, .int ((a / b : Nat) : Int)) := by
  have hv : divOk (b : Int) = true := divOk_b (k := 10) (by omega) (by omega) (by decide)
  rw [i_fdiv, if_pos hv, Int.fdiv_eq_ediv_of_nonneg _ (by omega)]
  rfl
theorem ix_two (a b : PyData) (k : Nat) : evIx (.list [a, b]) (.int ((k % 2 : Nat) : Int)) = some (false, if k % 2 = 0 then a else b) := by
  by_cases h : k % 2 = 0
  · rw [if_pos h, h]; exact ix_l0
  · rw [if_neg h, show k % 2 = 1 by omega]; exact ix_l1
/-- the law's net that hangs together -/
theorem hanging_is {l : List Nat} {count more : Nat} (h1 : 2 ≤ count) (h2 : count ≤ 8) (h3 : more ≤ 4) (hl : l.length = 60) :
    ∃ net : List (Nat × Nat), net.length = count - 1 + more ∧ (∀ p ∈ net, p.1 < count ∧ p.2 < count) ∧ (∀ k, 1 ≤ k → k < count → ∃ e, e < k ∧ ((e, k) ∈ net ∨ (k, e) ∈ net)) ∧ f__law_hanging [.list (l.map N), .int 8, .int (count : Int), .int (more : Int)] = some (true, .list (net.map encP2)) := by
  have hr1 : evRng [.int 1, .int (count : Int)] = some ((List.range' 1 (count - 1)).map N) := n_rng2 (a := 1) (b := count) (by decide) (by omega)
  have hr2 : evRng [.int (more : Int)] = some ((List.range more).map N) := n_rng1 (n := more) (by omega)
  obtain ⟨ρ', e1, net, c1, c2, c3, s5, s6, rfl⟩ := forGo_do (g := .nm 5) (f := blk FUEL ib__law_hanging_1) N (fun pre ρ => ∃ net : List (Nat × Nat), net.length = pre.length ∧ (∀ p ∈ net, p.1 < count ∧ p.2 < count) ∧ (∀ k, 1 ≤ k → k ≤ pre.length → ∃ e, e < k ∧ ((e, k) ∈ net ∨ (k, e) ∈ net)) ∧ ∃ s5 s6, ρ = [some (false, .list (l.map N)), sI 8, sI (count : Int), sI (more : Int), some (true, .list (net.map encP2)), s5, s6, none]) (l := List.range' 1 (count - 1))
    (ρ := [some (false, .list (l.map N)), sI 8, sI (count : Int), sI (more : Int), some (true, .list []), none, none, none]) ⟨[], rfl, (fun _ h => nomatch h), (fun k h1 h2 => by rw [List.length_nil] at h2; omega), none, none, rfl⟩ (by
    rintro pre k suf ρ hk ⟨net, c1, c2, c3, s5, s6, rfl⟩
    have hk2 := hrange hk
    have hkp : 0 < k := by omega
    have ec := cell_is (l := l) (k := 8 + k) (by omega)
    have ec : f__law_cell [.list (l.map N), .int (8 + (k : Int))] = some (false, .int ((l[8 + k]'(by omega) : Nat) : Int)) := ec
    generalize l[8 + k]'(by omega) = C at ec
    have d1 := div_N (a := C) (b := 3) (by decide) (by decide)
    have d1 : evBin .fdiv (.int (C : Int)) (.int 3) = some (false, .int ((C / 3 : Nat) : Int)) := d1
    have d2 := mod_N (a := C / 3) (b := k) hkp
    have d3 : evBin .fdiv (.int ((C / 3 : Nat) : Int)) (.int 7) = some (false, .int ((C / 3 / 7 : Nat) : Int)) := div_N (a := C / 3) (b := 7) (by decide) (by decide)
    have d4 : evBin .mod (.int ((C / 3 / 7 : Nat) : Int)) (.int 2) = some (false, .int ((C / 3 / 7 % 2 : Nat) : Int)) := mod_N (by decide)
    have lt := Nat.mod_lt (C / 3) hkp
    have d5 := ix_two (.tuple [.int ((C / 3 % k : Nat) : Int), .int (k : Int)]) (.tuple [.int (k : Int), .int ((C / 3 % k : Nat) : Int)]) (C / 3 / 7)
    have lk : lenOk ((net.map encP2).length + 1) = true := lenOk_of (by rw [List.length_map]; omega)
    refine ⟨_, _, rfl, ?_, net ++ [if C / 3 / 7 % 2 = 0 then (C / 3 % k, k) else (k, C / 3 % k)], by rw [List.length_append, c1, List.length_append]; rfl, fun p hp => ?_, fun j j1 j2 => ?_, sI (k : Int), sI ((C / 3 : Nat) : Int), rfl⟩
    · show evSs FUEL ib__law_hanging_1 [some (false, .list (l.map N)), sI 8, sI (count : Int), sI (more : Int), some (true, .list (net.map encP2)), sI (k : Int), s6, none] = _
      have fin : (net ++ [if C / 3 / 7 % 2 = 0 then (C / 3 % k, k) else (k, C / 3 % k)]).map encP2 = net.map encP2 ++ [if C / 3 / 7 % 2 = 0 then PyData.tuple [.int ((C / 3 % k : Nat) : Int), .int (k : Int)] else PyData.tuple [.int (k : Int), .int ((C / 3 % k : Nat) : Int)]] := by
        rw [List.map_append]
        congr 1
        split <;> rfl
      rw [fin]
      unfold ib__law_hanging_1
      simp only [q_wipeR_1, q_wipeR_2, q_asg_1, q_asg_2, q_asg_3, q_asg_4, q_asg_5, q_asg_6, q_asg_7, q_asgR_1, q_ownedArg_1, q_ownedArgs_1, q_ownedArgs_2, q_itemsOf_1, q_itemsOf_2, q_evE_1, q_evE_2, q_evE_3, q_evE_4, q_evE_5, q_evE_6, q_evE_7, q_evE_8, q_evE_9, q_evE_10, q_evE_11, q_evE_12, q_evE_13, q_evE_14, q_evE_15, q_evE_16, q_evE_17, q_evE_18, q_evE_19, q_evE_20, q_evE_21, q_evE_22, q_evE_23, q_evE_24, q_evE_25, q_evEs_1, q_evEs_2, q_evP_1, q_evP_2, q_evC_1, q_evC_2, q_evI_1, q_evI_2, q_evRet_1, q_evS_1, q_evS_2, q_evS_3, q_evS_4, q_evS_5, q_evS_6, q_evS_7, q_evS_8, q_evS_9, q_evS_10, q_evS_11, q_evS_12, q_evS_13, q_evS_14, q_evS_15, q_evS_16, q_evS_17, q_evS_18, q_evS_19, q_evS_20, q_evS_21, q_evSs_1, q_evSs_2, q_oa_0, q_rt_0, q_oa_1, q_rt_1, q_oa_2, q_rt_2, q_oa_3, q_rt_3, q_oa_4, q_rt_4, q_oa_5, q_rt_5, q_oa_6, q_rt_6, q_oa_7, q_rt_7, q_oa_8, q_rt_8, q_oa_9, q_rt_9, q_oa_10, q_rt_10, q_oa_11, q_rt_11, q_oa_12, q_rt_12, q_oa_13, q_rt_13, q_oa_14, q_rt_14, q_oa_15, q_rt_15, q_oa_16, q_rt_16, q_oa_17, q_rt_17, q_oa_18, q_rt_18, q_oa_19, q_rt_19, q_oa_20, q_rt_20, q_oa_21, q_rt_21, q_oa_22, q_rt_22, q_oa_23, q_rt_23, q_ar_0, q_ar_1, q_ar_2, asI_i, q_less1, q_less2, q_less3, q_slot, q_rows, q_dict, q_asInt, q_listIt, q_rowR, q_ret, q_bind, q_bindn, q_map, q_mapn, q_evT, q_own, startR, List.getElem?_cons_succ, List.getElem?_cons_zero, List.set_cons_succ, List.set_cons_zero, List.map_cons, List.map_nil, List.replicate, List.length_cons, List.length_nil, List.append_eq, List.nil_append, List.cons_append, Bool.and_true, Bool.true_and, Bool.and_false, Bool.false_and, Bool.not_true, Bool.not_false, if_true, if_false, reduceCtorEq, Nat.reduceSub, Nat.reduceAdd, Nat.reduceLeDiff, Bool.false_eq_true, Bool.or_false, Bool.false_or, ite_true, ite_false, lenOk_0, lenOk_1, lenOk_2, lenOk_3, lenOk_4, lenOk_5, lenOk_6, lenOk_7, lenOk_8, i_add, i_sub, i_neg, i_asI, N_int, i_inti, i_intb, decide_true, decide_false, ec, d1, d2, d3, d4, d5, lk]
    · rcases List.mem_append.mp hp with hp | hp
      · exact c2 p hp
      · rw [List.mem_singleton.mp hp]
        split
        · exact ⟨by show C / 3 % k < count; omega, by show k < count; omega⟩
        · exact ⟨by show k < count; omega, by show C / 3 % k < count; omega⟩
    · rw [List.length_append, List.length_singleton] at j2
      by_cases e : j ≤ pre.length
      · obtain ⟨e, h1, h2⟩ := c3 j j1 e
        exact ⟨e, h1, h2.elim (fun h => .inl (List.mem_append_left _ h)) fun h => .inr (List.mem_append_left _ h)⟩
      · have ej : j = k := by omega
        subst ej
        refine ⟨C / 3 % j, lt, ?_⟩
        by_cases c : C / 3 / 7 % 2 = 0
        · rw [if_pos c]; exact .inl (List.mem_append_right _ List.mem_cons_self)
        · rw [if_neg c]; exact .inr (List.mem_append_right _ List.mem_cons_self))
  rw [List.length_range'] at c1 c3
  obtain ⟨ρ2, e2, net2, f1, f2, f3, s6', s7', rfl⟩ := forGo_do (g := .nm 7) (f := blk FUEL ib__law_hanging_2) N (fun pre ρ => ∃ net2 : List (Nat × Nat), net2.length = net.length + pre.length ∧ (∀ p ∈ net2, p.1 < count ∧ p.2 < count) ∧ (∀ p ∈ net, p ∈ net2) ∧ ∃ s6 s7, ρ = [some (false, .list (l.map N)), sI 8, sI (count : Int), sI (more : Int), some (true, .list (net2.map encP2)), s5, s6, s7]) (l := List.range more)
    (ρ := [some (false, .list (l.map N)), sI 8, sI (count : Int), sI (more : Int), some (true, .list (net.map encP2)), s5, s6, none]) ⟨net, by rw [List.length_nil, Nat.add_zero], c2, fun p hp => hp, s6, none, rfl⟩ (by
    rintro pre k suf ρ hk ⟨net2, g1, g2, g3, s6, s7, rfl⟩
    obtain ⟨e, hl2⟩ := hrange0 hk
    subst e
    have ec := cell_is (l := l) (k := 8 + 9 + pre.length) (by omega)
    have ec : f__law_cell [.list (l.map N), .int (8 + 9 + (pre.length : Int))] = some (false, .int ((l[8 + 9 + pre.length]'(by omega) : Nat) : Int)) := ec
    generalize l[8 + 9 + pre.length]'(by omega) = C at ec
    have d2 := mod_N (a := C) (b := count) (by omega)
    have d3 : evBin .fdiv (.int (C : Int)) (.int 11) = some (false, .int ((C / 11 : Nat) : Int)) := div_N (a := C) (b := 11) (by decide) (by decide)
    have d4 := mod_N (a := C / 11) (b := count) (by omega)
    have lt1 := Nat.mod_lt C (show 0 < count by omega)
    have lt2 := Nat.mod_lt (C / 11) (show 0 < count by omega)
    have lk : lenOk ((net2.map encP2).length + 1) = true := lenOk_of (by rw [List.length_map]; omega)
    refine ⟨_, _, rfl, ?_, net2 ++ [(C % count, C / 11 % count)], by rw [List.length_append, g1, List.length_append]; rfl, fun p hp => ?_, fun p hp => List.mem_append_left _ (g3 p hp), sI (C : Int), sI (pre.length : Int), rfl⟩
    · show evSs FUEL ib__law_hanging_2 [some (false, .list (l.map N)), sI 8, sI (count : Int), sI (more : Int), some (true, .list (net2.map encP2)), s5, s6, sI (pre.length : Int)] = _
      have fin : (net2 ++ [(C % count, C / 11 % count)]).map encP2 = net2.map encP2 ++ [PyData.tuple [.int ((C % count : Nat) : Int), .int ((C / 11 % count : Nat) : Int)]] := by rw [List.map_append]; rfl
      have e89 : (8 : Int) + 9 = 17 := rfl
      rw [e89] at ec
      rw [fin]
      unfold ib__law_hanging_2
      simp only [q_wipeR_1, q_wipeR_2, q_asg_1, q_asg_2, q_asg_3, q_asg_4, q_asg_5, q_asg_6, q_asg_7, q_asgR_1, q_ownedArg_1, q_ownedArgs_1, q_ownedArgs_2, q_itemsOf_1, q_itemsOf_2, q_evE_1, q_evE_2, q_evE_3, q_evE_4, q_evE_5, q_evE_6, q_evE_7, q_evE_8, q_evE_9, q_evE_10, q_evE_11, q_evE_12, q_evE_13, q_evE_14, q_evE_15, q_evE_16, q_evE_17, q_evE_18, q_evE_19, q_evE_20, q_evE_21, q_evE_22, q_evE_23, q_evE_24, q_evE_25, q_evEs_1, q_evEs_2, q_evP_1, q_evP_2, q_evC_1, q_evC_2, q_evI_1, q_evI_2, q_evRet_1, q_evS_1, q_evS_2, q_evS_3, q_evS_4, q_evS_5, q_evS_6, q_evS_7, q_evS_8, q_evS_9, q_evS_10, q_evS_11, q_evS_12, q_evS_13, q_evS_14, q_evS_15, q_evS_16, q_evS_17, q_evS_18, q_evS_19, q_evS_20, q_evS_21, q_evSs_1, q_evSs_2, q_oa_0, q_rt_0, q_oa_1, q_rt_1, q_oa_2, q_rt_2, q_oa_3, q_rt_3, q_oa_4, q_rt_4, q_oa_5, q_rt_5, q_oa_6, q_rt_6, q_oa_7, q_rt_7, q_oa_8, q_rt_8, q_oa_9, q_rt_9, q_oa_10, q_rt_10, q_oa_11, q_rt_11, q_oa_12, q_rt_12, q_oa_13, q_rt_13, q_oa_14, q_rt_14, q_oa_15, q_rt_15, q_oa_16, q_rt_16, q_oa_17, q_rt_17, q_oa_18, q_rt_18, q_oa_19, q_rt_19, q_oa_20, q_rt_20, q_oa_21, q_rt_21, q_oa_22, q_rt_22, q_oa_23, q_rt_23, q_ar_0, q_ar_1, q_ar_2, asI_i, q_less1, q_less2, q_less3, q_slot, q_rows, q_dict, q_asInt, q_listIt, q_rowR, q_ret, q_bind, q_bindn, q_map, q_mapn, q_evT, q_own, startR, List.getElem?_cons_succ, List.getElem?_cons_zero, List.set_cons_succ, List.set_cons_zero, List.map_cons, List.map_nil, List.replicate, List.length_cons, List.length_nil, List.append_eq, List.nil_append, List.cons_append, Bool.and_true, Bool.true_and, Bool.and_false, Bool.false_and, Bool.not_true, Bool.not_false, if_true, if_false, reduceCtorEq, Nat.reduceSub, Nat.reduceAdd, Nat.reduceLeDiff, Bool.false_eq_true, Bool.or_false, Bool.false_or, ite_true, ite_false, lenOk_0, lenOk_1, lenOk_2, lenOk_3, lenOk_4, lenOk_5, lenOk_6, lenOk_7, lenOk_8, i_add, i_sub, i_neg, i_asI, N_int, i_inti, i_intb, decide_true, decide_false, e89, ec, d2, d3, d4, lk]
    · rcases List.mem_append.mp hp with hp | hp
      · exact g2 p hp
      · rw [List.mem_singleton.mp hp]
        exact ⟨lt1, lt2⟩)
  rw [List.length_range] at f1
  refine ⟨net2, by omega, f2, fun k k1 k2 => ?_, ?_⟩
  · obtain ⟨e, h1, h2⟩ := c3 k k1 (by omega)
    exact ⟨e, h1, h2.elim (fun h => .inl (f3 _ h)) fun h => .inr (f3 _ h)⟩
  · unfold f__law_hanging evDef ir__law_hanging
    simp only [q_wipeR_1, q_wipeR_2, q_asg_1, q_asg_2, q_asg_3, q_asg_4, q_asg_5, q_asg_6, q_asg_7, q_asgR_1, q_ownedArg_1, q_ownedArgs_1, q_ownedArgs_2, q_itemsOf_1, q_itemsOf_2, q_evE_1, q_evE_2, q_evE_3, q_evE_4, q_evE_5, q_evE_6, q_evE_7, q_evE_8, q_evE_9, q_evE_10, q_evE_11, q_evE_12, q_evE_13, q_evE_14, q_evE_15, q_evE_16, q_evE_17, q_evE_18, q_evE_19, q_evE_20, q_evE_21, q_evE_22, q_evE_23, q_evE_24, q_evE_25, q_evEs_1, q_evEs_2, q_evP_1, q_evP_2, q_evC_1, q_evC_2, q_evI_1, q_evI_2, q_evRet_1, q_evS_1, q_evS_2, q_evS_3, q_evS_4, q_evS_5, q_evS_6, q_evS_7, q_evS_8, q_evS_9, q_evS_10, q_evS_11, q_evS_12, q_evS_13, q_evS_14, q_evS_15, q_evS_16, q_evS_17, q_evS_18, q_evS_19, q_evS_20, q_evS_21, q_evSs_1, q_evSs_2, q_oa_0, q_rt_0, q_oa_1, q_rt_1, q_oa_2, q_rt_2, q_oa_3, q_rt_3, q_oa_4, q_rt_4, q_oa_5, q_rt_5, q_oa_6, q_rt_6, q_oa_7, q_rt_7, q_oa_8, q_rt_8, q_oa_9, q_rt_9, q_oa_10, q_rt_10, q_oa_11, q_rt_11, q_oa_12, q_rt_12, q_oa_13, q_rt_13, q_oa_14, q_rt_14, q_oa_15, q_rt_15, q_oa_16, q_rt_16, q_oa_17, q_rt_17, q_oa_18, q_rt_18, q_oa_19, q_rt_19, q_oa_20, q_rt_20, q_oa_21, q_rt_21, q_oa_22, q_rt_22, q_oa_23, q_rt_23, q_ar_0, q_ar_1, q_ar_2, asI_i, q_less1, q_less2, q_less3, q_slot, q_rows, q_dict, q_asInt, q_listIt, q_rowR, q_ret, q_bind, q_bindn, q_map, q_mapn, q_evT, q_own, startR, List.getElem?_cons_succ, List.getElem?_cons_zero, List.set_cons_succ, List.set_cons_zero, List.map_cons, List.map_nil, List.replicate, List.length_cons, List.length_nil, List.append_eq, List.nil_append, List.cons_append, Bool.and_true, Bool.true_and, Bool.and_false, Bool.false_and, Bool.not_true, Bool.not_false, if_true, if_false, reduceCtorEq, Nat.reduceSub, Nat.reduceAdd, Nat.reduceLeDiff, Bool.false_eq_true, Bool.or_false, Bool.false_or, ite_true, ite_false, lenOk_0, lenOk_1, lenOk_2, lenOk_3, lenOk_4, lenOk_5, lenOk_6, lenOk_7, lenOk_8, i_add, i_sub, i_neg, i_asI, N_int, i_inti, i_intb, decide_true, decide_false, hr1, e1, hr2, e2]
theorem conn_of {d : Nat} {count : Nat} {ts : List (Nt d)} (h : ∀ k, 1 ≤ k → k < count → ∃ e, e < k ∧ ∃ t ∈ ts, (t.1 = e ∧ t.2.1 = k) ∨ (t.1 = k ∧ t.2.1 = e)) : Conn count ts := fun x hx i => by
  induction i using Nat.strongRecOn with
  | _ i ih =>
    intro hi
    by_cases c : i = 0
    · rw [c]
    · obtain ⟨e, he, t, ht, h2⟩ := h i (by omega) hi
      have := ih e he (by omega)
      have h3 := hx t ht
      rcases h2 with ⟨a, b⟩ | ⟨a, b⟩
      · rw [a, b] at h3; rw [← h3, this]
      · rw [a, b] at h3; rw [h3, this]
end K81

set_option Elab.async false
set_option linter.all false
set_option maxRecDepth 100000
set_option maxHeartbeats 4000000
namespace K81
open PySem L2 PV Qu LX
open Classical
theorem ix_getD {l : List Nat} {k : Nat} (h : k < l.length) : evIx (.list (l.map N)) (.int (k : Int)) = some (false, .int (l.getD k 0 : Nat)) := by
  rw [ix_draw h, List.getD_eq_getElem?_getD, List.getElem?_eq_getElem h]; rfl
theorem natQ_pos {d : Nat} [NSq d] {n : Nat} (h : 0 < n) : (0 : Q d) < (((n : Nat) : Int) : Q d) := by
  have z := (pos_int (((n : Nat) : Int) : Q d)).mpr (.inl ?_)
  · exact z
  · obtain ⟨a, b, c⟩ := int_rep (d := d) (n : Int)
    rw [a, b]
    refine ⟨by omega, ?_⟩
    have : (0 : Int) < (n : Int) * (n : Int) := Int.mul_pos (by omega) (by omega)
    rw [Int.mul_zero]
    omega
theorem ix_three (a b c : PyData) (k : Nat) : ∃ r, evIx (.list [a, b, c]) (.int ((k % 3 : Nat) : Int)) = some (false, r) ∧ (r = a ∨ r = b ∨ r = c) := by
  by_cases h0 : k % 3 = 0
  · rw [h0]; exact ⟨a, ix_l0, .inl rfl⟩
  · by_cases h1 : k % 3 = 1
    · rw [h1]; exact ⟨b, ix_l1, .inr (.inl rfl)⟩
    · rw [show k % 3 = 2 by omega]; exact ⟨c, ix_l2, .inr (.inr rfl)⟩
theorem frac_ok {d : Nat} [NSq d] {p s : Nat} (hp : 0 < p) (hp6 : p ≤ 6) (hs : 0 < s) (hs4 : s ≤ 4) : 0 < mkQ d (p : Int) 0 (s : Int) ∧ Dn 12 96 (mkQ d (p : Int) 0 (s : Int)) ∧ f__law_length [.int (p : Int), .int 0, .int (s : Int)] = some (false, L (mkQ d (p : Int) 0 (s : Int))) := by
  refine ⟨?_, ?_, length_is (k := 4) (by omega) (by omega) (by decide) (by omega) (by decide)⟩
  · have e : mkQ d (p : Int) 0 (s : Int) = F ((p : Rat) / (s : Rat)) := by
      refine mkQ_of (by omega) ?_ (by show (0 : Rat) * _ = ((0 : Int) : Rat); have : ((0 : Int) : Rat) = 0 := rfl; rw [this]; grind)
      have s0 : ((s : Int) : Rat) ≠ 0 := cast_ne (by omega)
      have e1 : ((s : Int) : Rat) = (s : Rat) := Rat.intCast_natCast s
      have e2 : ((p : Int) : Rat) = (p : Rat) := Rat.intCast_natCast p
      show (p : Rat) / (s : Rat) * ((s : Int) : Rat) = ((p : Int) : Rat)
      rw [e1] at s0 ⊢
      rw [e2]
      grind
    rw [e]
    have hr : (0 : Rat) < (p : Rat) / (s : Rat) := by
      have h1 : ((0 : Nat) : Rat) < (p : Rat) := Rat.natCast_lt_natCast.mpr hp
      have h2 : ((0 : Nat) : Rat) < (s : Rat) := Rat.natCast_lt_natCast.mpr hs
      rw [Rat.div_def]
      exact Rat.mul_pos h1 (Rat.inv_pos.mpr h2)
    generalize (p : Rat) / (s : Rat) = r at hr
    show Q.pos (F r - 0 : Q d)
    have e : (F r - 0 : Q d) = F r := by grind
    rw [e]
    left
    refine ⟨hr, ?_⟩
    show 0 < r * r - (d : Rat) * (0 * 0)
    have := Rat.mul_pos hr hr
    grind
  · have h12 : ∃ k, s * k = 12 ∧ k ≤ 12 := by
      have : s = 1 ∨ s = 2 ∨ s = 3 ∨ s = 4 := by omega
      rcases this with rfl | rfl | rfl | rfl
      · exact ⟨12, rfl, by decide⟩
      · exact ⟨6, rfl, by decide⟩
      · exact ⟨4, rfl, by decide⟩
      · exact ⟨3, rfl, by decide⟩
    obtain ⟨k, hk, hk2⟩ := h12
    have := dn_mk (d := d) (p := (p : Int)) (q := 0) (s := s) (k := k) (P := 8) hs (by omega) (by decide)
    rw [hk] at this
    exact this.mono (by omega)
/-- the drawn shares -/
theorem shares_is {d : Nat} [NSq d] {l : List Nat} (hd : d < 64) (hl : l.length = 60) (m : Nat) (hm : m ≤ 12) {A : Nat → Q d} (hA : ∀ k, k + 2 < l.length → 0 < A k ∧ Sz 4 (A k) ∧ Dn 12 96 (A k) ∧ f__law_above [.list (l.map N), .int (k : Int), .int (d : Int)] = some (false, L (A k)))
    (s0 s3 s4 s5 s9 s10 s11 s12 s13 s14 s15 s16 : Option PV.R) :
    ∃ X : List (Q d), X.length = m ∧ (∀ x ∈ X, 0 < x ∧ Dn 12 96 x) ∧ ∃ s7 s8, forGo (.nm 7) (blk FUEL ib_law_1) ((List.range m).map N) [s0, some (false, .list (l.map N)), sI (d : Int), s3, s4, s5, some (true, .list []), none, none, s9, s10, s11, s12, s13, s14, s15, s16] = some (.nx [s0, some (false, .list (l.map N)), sI (d : Int), s3, s4, s5, some (true, .list (X.map L)), s7, s8, s9, s10, s11, s12, s13, s14, s15, s16]) := by
  obtain ⟨ρ', e1, X, c1, c2, s7, s8, rfl⟩ := forGo_do (g := .nm 7) (f := blk FUEL ib_law_1) N (fun pre ρ => ∃ X : List (Q d), X.length = pre.length ∧ (∀ x ∈ X, 0 < x ∧ Dn 12 96 x) ∧ ∃ s7 s8, ρ = [s0, some (false, .list (l.map N)), sI (d : Int), s3, s4, s5, some (true, .list (X.map L)), s7, s8, s9, s10, s11, s12, s13, s14, s15, s16]) (l := List.range m)
    (ρ := [s0, some (false, .list (l.map N)), sI (d : Int), s3, s4, s5, some (true, .list []), none, none, s9, s10, s11, s12, s13, s14, s15, s16]) ⟨[], rfl, (fun _ h => nomatch h), none, none, rfl⟩ (by
    rintro pre k suf ρ hk ⟨X, c1, c2, s7, s8, rfl⟩
    obtain ⟨e, hl2⟩ := hrange0 hk
    subst e
    have ec := cell_is (l := l) (k := 30 + pre.length) (by omega)
    have ec : f__law_cell [.list (l.map N), .int (30 + (pre.length : Int))] = some (false, .int ((l[30 + pre.length]'(by omega) : Nat) : Int)) := ec
    generalize l[30 + pre.length]'(by omega) = C at ec
    obtain ⟨a1, -, a2, a3⟩ := hA (30 + pre.length) (by omega)
    have a3 : f__law_above [.list (l.map N), .int (30 + (pre.length : Int)), .int (d : Int)] = some (false, L (A (30 + pre.length))) := a3
    generalize A (30 + pre.length) = a at a1 a2 a3
    have m6 := mod_N (a := C) (b := 6) (by decide)
    have m6 : evBin .mod (.int (C : Int)) (.int 6) = some (false, .int ((C % 6 : Nat) : Int)) := m6
    have d7 : evBin .fdiv (.int (C : Int)) (.int 7) = some (false, .int ((C / 7 : Nat) : Int)) := div_N (a := C) (b := 7) (by decide) (by decide)
    have m4 : evBin .mod (.int ((C / 7 : Nat) : Int)) (.int 4) = some (false, .int ((C / 7 % 4 : Nat) : Int)) := mod_N (by decide)
    have i1 : (1 : Int) + ((C % 6 : Nat) : Int) = ((1 + C % 6 : Nat) : Int) := by omega
    have i2 : (1 : Int) + ((C / 7 % 4 : Nat) : Int) = ((1 + C / 7 % 4 : Nat) : Int) := by omega
    have w := whole_is (d := d) ((1 + C % 6 : Nat) : Int)
    obtain ⟨f1, f2, f3⟩ := frac_ok (d := d) (p := 1 + C % 6) (s := 1 + C / 7 % 4) (by omega) (by omega) (by omega) (by omega)
    have x4 : evIx (.list (l.map N)) (.int 4) = some (false, .int (l.getD 4 0 : Nat)) := ix_getD (k := 4) (by omega)
    have m3 : evBin .mod (.int (l.getD 4 0 : Nat)) (.int 3) = some (false, .int ((l.getD 4 0 % 3 : Nat) : Int)) := mod_N (by decide)
    obtain ⟨r, r1, r2⟩ := ix_three (L (((1 + C % 6 : Nat) : Int) : Q d)) (L (mkQ d ((1 + C % 6 : Nat) : Int) 0 ((1 + C / 7 % 4 : Nat) : Int))) (L a) (l.getD 4 0)
    have wd : Dn 12 96 (((1 + C % 6 : Nat) : Int) : Q d) := by
      have := ((nat_dn (d := d) (1 + C % 6)).up (T := 12) (k := 12) rfl).mono (C := 96) (by omega)
      exact this
    obtain ⟨x, rfl, hx1, hx2⟩ : ∃ x : Q d, r = L x ∧ 0 < x ∧ Dn 12 96 x := by
      rcases r2 with rfl | rfl | rfl
      · exact ⟨_, rfl, natQ_pos (by omega), wd⟩
      · exact ⟨_, rfl, f1, f2⟩
      · exact ⟨_, rfl, a1, a2⟩
    have lk : lenOk ((X.map L).length + 1) = true := lenOk_of (by rw [List.length_map]; omega)
    refine ⟨_, _, rfl, ?_, X ++ [x], by rw [List.length_append, c1, List.length_append]; rfl, fun y hy => ?_, sI (pre.length : Int), sI (C : Int), rfl⟩
    · show evSs FUEL ib_law_1 [s0, some (false, .list (l.map N)), sI (d : Int), s3, s4, s5, some (true, .list (X.map L)), sI (pre.length : Int), s8, s9, s10, s11, s12, s13, s14, s15, s16] = _
      have fin : (X ++ [x]).map L = X.map L ++ [L x] := by rw [List.map_append]; rfl
      rw [fin]
      unfold ib_law_1
      simp only [q_wipeR_1, q_wipeR_2, q_asg_1, q_asg_2, q_asg_3, q_asg_4, q_asg_5, q_asg_6, q_asg_7, q_asgR_1, q_ownedArg_1, q_ownedArgs_1, q_ownedArgs_2, q_itemsOf_1, q_itemsOf_2, q_evE_1, q_evE_2, q_evE_3, q_evE_4, q_evE_5, q_evE_6, q_evE_7, q_evE_8, q_evE_9, q_evE_10, q_evE_11, q_evE_12, q_evE_13, q_evE_14, q_evE_15, q_evE_16, q_evE_17, q_evE_18, q_evE_19, q_evE_20, q_evE_21, q_evE_22, q_evE_23, q_evE_24, q_evE_25, q_evEs_1, q_evEs_2, q_evP_1, q_evP_2, q_evC_1, q_evC_2, q_evI_1, q_evI_2, q_evRet_1, q_evS_1, q_evS_2, q_evS_3, q_evS_4, q_evS_5, q_evS_6, q_evS_7, q_evS_8, q_evS_9, q_evS_10, q_evS_11, q_evS_12, q_evS_13, q_evS_14, q_evS_15, q_evS_16, q_evS_17, q_evS_18, q_evS_19, q_evS_20, q_evS_21, q_evSs_1, q_evSs_2, q_oa_0, q_rt_0, q_oa_1, q_rt_1, q_oa_2, q_rt_2, q_oa_3, q_rt_3, q_oa_4, q_rt_4, q_oa_5, q_rt_5, q_oa_6, q_rt_6, q_oa_7, q_rt_7, q_oa_8, q_rt_8, q_oa_9, q_rt_9, q_oa_10, q_rt_10, q_oa_11, q_rt_11, q_oa_12, q_rt_12, q_oa_13, q_rt_13, q_oa_14, q_rt_14, q_oa_15, q_rt_15, q_oa_16, q_rt_16, q_oa_17, q_rt_17, q_oa_18, q_rt_18, q_oa_19, q_rt_19, q_oa_20, q_rt_20, q_oa_21, q_rt_21, q_oa_22, q_rt_22, q_oa_23, q_rt_23, q_ar_0, q_ar_1, q_ar_2, asI_i, q_less1, q_less2, q_less3, q_slot, q_rows, q_dict, q_asInt, q_listIt, q_rowR, q_ret, q_bind, q_bindn, q_map, q_mapn, q_evT, q_own, startR, List.getElem?_cons_succ, List.getElem?_cons_zero, List.set_cons_succ, List.set_cons_zero, List.map_cons, List.map_nil, List.replicate, List.length_cons, List.length_nil, List.append_eq, List.nil_append, List.cons_append, Bool.and_true, Bool.true_and, Bool.and_false, Bool.false_and, Bool.not_true, Bool.not_false, if_true, if_false, reduceCtorEq, Nat.reduceSub, Nat.reduceAdd, Nat.reduceLeDiff, Bool.false_eq_true, Bool.or_false, Bool.false_or, ite_true, ite_false, lenOk_0, lenOk_1, lenOk_2, lenOk_3, lenOk_4, lenOk_5, lenOk_6, lenOk_7, lenOk_8, i_add, i_sub, i_neg, i_asI, N_int, i_inti, i_intb, decide_true, decide_false, ec, m6, i1, w, d7, m4, i2, f3, a3, x4, m3, r1, lk]
    · rcases List.mem_append.mp hy with hy | hy
      · exact c2 y hy
      · rw [List.mem_singleton.mp hy]; exact ⟨hx1, hx2⟩)
  rw [List.length_range] at c1
  exact ⟨X, c1, c2, s7, s8, e1⟩
theorem zip_map {α β γ : Type} (f : α × β → γ) (g : α → γ) (h : ∀ p, f p = g p.1) : ∀ (l : List α) (r : List β), l.length = r.length → (l.zip r).map f = l.map g
  | [], _, _ => rfl
  | a :: l, [], e => by cases e
  | a :: l, b :: r, e => by
    rw [List.zip_cons_cons, List.map_cons, List.map_cons, h, zip_map f g h l r (by simpa using e)]
theorem zip_map2 {α β γ : Type} (f : α × β → γ) (g : β → γ) (h : ∀ p, f p = g p.2) : ∀ (l : List α) (r : List β), l.length = r.length → (l.zip r).map f = r.map g
  | [], [], _ => rfl
  | [], b :: r, e => by cases e
  | a :: l, [], e => by cases e
  | a :: l, b :: r, e => by
    rw [List.zip_cons_cons, List.map_cons, List.map_cons, h, zip_map2 f g h l r (by simpa using e)]
theorem mem_zip {α β : Type} : ∀ {l : List α} {r : List β}, l.length = r.length → ∀ a ∈ l, ∃ b, (a, b) ∈ l.zip r
  | [], _, _, a, h => nomatch h
  | x :: l, [], e, _, _ => by cases e
  | x :: l, y :: r, e, a, h => by
    rw [List.zip_cons_cons]
    rcases List.mem_cons.mp h with rfl | h
    · exact ⟨y, List.mem_cons_self⟩
    · obtain ⟨b, hb⟩ := mem_zip (by simpa using e) a h
      exact ⟨b, List.mem_cons_of_mem _ hb⟩
section
variable {d : Nat} [NSq d]
theorem en_scale (x y : Nat → Q d) (k : Q d) : ∀ ts : List (Nt d), en x (fun i => k * y i) ts = k * en x y ts
  | [] => by show (0 : Q d) = k * 0; grind
  | t :: ts => by
    show t.2.2 * ((x t.1 - x t.2.1) * (k * y t.1 - k * y t.2.1)) + en x (fun i => k * y i) ts = k * (_ + en x y ts)
    rw [en_scale x y k ts]; grind
theorem en_turn (x y : Nat → Q d) (k : Q d) : ∀ ts : List (Nt d), en x y (ts.map fun t => ((t.2.1, t.1, k * t.2.2) : Nt d)) = k * en x y ts
  | [] => by show (0 : Q d) = k * 0; grind
  | t :: ts => by
    show k * t.2.2 * ((x t.2.1 - x t.1) * (y t.2.1 - y t.1)) + en x y (ts.map fun t => ((t.2.1, t.1, k * t.2.2) : Nt d)) = k * (_ + en x y ts)
    rw [en_turn x y k ts]; grind
end
end K81

set_option Elab.async false
set_option linter.all false
set_option maxRecDepth 100000
set_option maxHeartbeats 4000000
namespace K81
open PySem L2 PV Qu LX
open Classical
section
variable {d : Nat} [NSq d]
theorem hts_times {n : Nat} {ts : List (Nt d)} {top k : Q d} (h : Net n ts) : ∀ i, i < n + 2 → k * hts n ts top i = hts n ts (k * top) i :=
  hts_only h.ix h.pos h.conn (by rw [hts_ends.1]; grind) (by rw [hts_ends.2]) fun l h1 h2 => by
    rw [en_scale, hts_bal h.ix h.pos h.conn h1 h2]; grind
theorem hts_turned {n : Nat} {ts : List (Nt d)} {top k : Q d} (h : Net n ts) (h' : Net n (ts.map fun t => ((t.2.1, t.1, k * t.2.2) : Nt d))) : ∀ i, i < n + 2 → hts n ts top i = hts n (ts.map fun t => ((t.2.1, t.1, k * t.2.2) : Nt d)) top i :=
  hts_only h'.ix h'.pos h'.conn hts_ends.1 hts_ends.2 fun l h1 h2 => by
    rw [en_turn, hts_bal h.ix h.pos h.conn h1 h2]; grind
theorem net_turn {n : Nat} {ts : List (Nt d)} {k : Q d} (hd : d < 64) (h : Net n ts) (hs : ∀ t ∈ ts, Dn 12 96 t.2.2) (k0 : 0 < k) (hk : Dn 12 96 k) : Net n (ts.map fun t => ((t.2.1, t.1, k * t.2.2) : Nt d)) := by
  refine ⟨h.n6, by rw [List.length_map]; exact h.len, fun t ht => ?_, fun t ht => ?_, fun t ht => ?_, fun x hx => h.conn x fun t ht => ?_⟩
  · obtain ⟨u, hu, rfl⟩ := List.mem_map.mp ht
    exact ⟨(h.ix u hu).2, (h.ix u hu).1⟩
  · obtain ⟨u, hu, rfl⟩ := List.mem_map.mp ht
    exact LX.mul_pos3 k0 (h.pos u hu)
  · obtain ⟨u, hu, rfl⟩ := List.mem_map.mp ht
    refine (hk.mul (hs u hu)).mono ?_
    have := Nat.mul_le_mul_right (96 * 96) (show d + 2 ≤ 66 by omega)
    have e : 66 * (96 * 96) = BS := by decide
    omega
  · exact (hx _ (List.mem_map_of_mem ht)).symm
end
theorem asgP2 (a b : G) (p : Nat × Nat) (ρ : Sl) : asg (.two a b) (encP2 p) ρ = (asg a (.int (p.1 : Int)) ρ).bind fun ρ1 => asg b (.int (p.2 : Int)) ρ1 := Eq.trans rfl (Eq.refl _)
theorem nolist_R {d : Nat} {α : Type} (f : α → Q d) : ∀ l : List α, nolistA (l.map fun j => L (f j)) = true
  | [] => by rw [List.map_nil]; unfold nolistA; rfl
  | a :: l => by
    rw [List.map_cons]
    unfold nolistA
    rw [nolist_R f l]
    rfl
theorem facts {d : Nat} [NSq d] {l : List Nat} (hd : d < 64) (hl : l.length = 60) {A : Nat → Q d} (hA : ∀ k, k + 2 < l.length → 0 < A k ∧ Sz 4 (A k) ∧ Dn 12 96 (A k) ∧ f__law_above [.list (l.map N), .int (k : Int), .int (d : Int)] = some (false, L (A k)))
    {cn more : Nat} (h1 : 2 ≤ cn) (h2 : cn ≤ 8) (h3 : more ≤ 4) {c m : Int} (hc : c = (cn : Int)) (hm : m = (more : Int)) (s0 : Option PV.R) :
    ∃ (NT SH NT2 SH2 T1 T2 : List PyData) (mt : Nat) (tp tp2 k : PyData),
      f__law_hanging [.list (l.map N), .int 8, .int c, .int m] = some (true, .list NT) ∧
      evBI .len [.list NT] = some (false, .int (mt : Int)) ∧ evRng [.int (mt : Int)] = some ((List.range mt).map N) ∧
      (∃ s7 s8, forGo (.nm 7) (blk FUEL ib_law_1) ((List.range mt).map N) [s0, some (false, .list (l.map N)), sI (d : Int), sI c, sI m, some (false, .list NT), some (true, .list []), none, none, none, none, none, none, none, none, none, none] = some (.nx [s0, some (false, .list (l.map N)), sI (d : Int), sI c, sI m, some (false, .list NT), some (true, .list SH), s7, s8, none, none, none, none, none, none, none, none])) ∧
      f__law_above [.list (l.map N), .int 24, .int (d : Int)] = some (false, tp) ∧
      f__law_told [.int (d : Int), .int c, .list NT, .list SH, tp] = some (true, .list T1) ∧
      f__law_times [.int (d : Int), .tuple [.int 2, .int 0, .int 1], tp] = some (false, tp2) ∧
      f__law_told [.int (d : Int), .int c, .list NT, .list SH, tp2] = some (true, .list T2) ∧
      (∀ b s1 s3 s4 s5 s6 s7 s8 s9 s11 s13 s14 s15 s16, evE ic_law_2 b [s0, s1, sI (d : Int), s3, s4, s5, s6, s7, s8, s9, some (false, .list T1), s11, none, s13, s14, s15, s16] = some (true, .list T2)) ∧
      evCmp .ne (.list T2) (.list T2) = some false ∧
      f__law_above [.list (l.map N), .int 27, .int (d : Int)] = some (false, k) ∧
      (∀ b s1 s2 s3 s4 s6 s7 s8 s9 s10 s11 s12 s15 s16, evE ic_law_3 b [s0, s1, s2, s3, s4, some (false, .list NT), s6, s7, s8, s9, s10, s11, s12, none, none, s15, s16] = some (true, .list NT2)) ∧
      (∀ b s1 s3 s4 s5 s8 s9 s10 s11 s12 s13 s14 s16, evE ic_law_4 b [s0, s1, sI (d : Int), s3, s4, s5, some (true, .list SH), some (false, k), s8, s9, s10, s11, s12, s13, s14, none, s16] = some (true, .list SH2)) ∧
      f__law_told [.int (d : Int), .int c, .list NT2, .list SH2, tp] = some (true, .list T1) ∧
      evCmp .ne (.list T1) (.list T1) = some false ∧ nolistR (true, .list T1) = true ∧ nolistR (true, .list T2) = true := by
  obtain ⟨net, c1, c2, c3, c4⟩ := hanging_is (l := l) h1 h2 h3 hl
  obtain ⟨n, rfl⟩ : ∃ n, cn = n + 2 := ⟨cn - 2, by omega⟩
  obtain ⟨a1, -, a2, a3⟩ := hA 24 (by omega)
  obtain ⟨k1, kz, k2, k3⟩ := hA 27 (by omega)
  obtain ⟨X, x1, x2, s7, s8, x3⟩ := shares_is hd hl net.length (by omega) hA s0 (sI c) (sI m) (some (false, .list (net.map encP2))) none none none none none none none none
  have a3 : f__law_above [.list (l.map N), .int 24, .int (d : Int)] = some (false, L (A 24)) := a3
  have k3 : f__law_above [.list (l.map N), .int 27, .int (d : Int)] = some (false, L (A 27)) := k3
  generalize A 24 = top at *
  generalize A 27 = k at *
  let ts : List (Nt d) := (net.zip X).map fun q => (q.1.1, q.1.2, q.2)
  have hts' : ∀ t ∈ ts, ∃ p x, p ∈ net ∧ x ∈ X ∧ t = (p.1, p.2, x) := fun t ht => by
    obtain ⟨q, hq, rfl⟩ := List.mem_map.mp ht
    obtain ⟨h1, h2⟩ := List.of_mem_zip (show (q.1, q.2) ∈ net.zip X from hq)
    exact ⟨q.1, q.2, h1, h2, rfl⟩
  have e1 : ts.map encPt = net.map encP2 := by
    show ((net.zip X).map _).map _ = _
    rw [List.map_map]
    exact zip_map _ encP2 (fun p => rfl) net X x1.symm
  have e2 : (ts.map fun t => L t.2.2) = X.map L := by
    show ((net.zip X).map _).map _ = _
    rw [List.map_map]
    exact zip_map2 _ L (fun p => rfl) net X x1.symm
  have hs : ∀ t ∈ ts, Dn 12 96 t.2.2 := fun t ht => by
    obtain ⟨p, x, hp, hx, rfl⟩ := hts' t ht
    exact (x2 x hx).2
  have hN : Net n ts := by
    refine ⟨by omega, ?_, fun t ht => ?_, fun t ht => ?_, fun t ht => ?_, conn_of fun k k1 k2 => ?_⟩
    · show ((net.zip X).map _).length ≤ 12
      rw [List.length_map, List.length_zip]; omega
    · obtain ⟨p, x, hp, hx, rfl⟩ := hts' t ht
      exact c2 p hp
    · obtain ⟨p, x, hp, hx, rfl⟩ := hts' t ht
      exact (x2 x hx).1
    · exact ((hs t ht).up (T := 144) (k := 12) rfl).mono (by decide)
    · obtain ⟨e, he, h⟩ := c3 k k1 k2
      rcases h with h | h
      · obtain ⟨x, hx⟩ := mem_zip x1.symm _ h
        exact ⟨e, he, (e, k, x), List.mem_map_of_mem hx, .inl ⟨rfl, rfl⟩⟩
      · obtain ⟨x, hx⟩ := mem_zip x1.symm _ h
        exact ⟨e, he, (k, e, x), List.mem_map_of_mem hx, .inr ⟨rfl, rfl⟩⟩
  have t12 : Dn 12 192 top := a2.mono (by decide)
  have d2 : Dn 12 192 (((2 : Int) : Q d) * top) := by
    have e : ((2 : Int) : Q d) * top = top + top := by
      have : ((2 : Int) : Q d) = 2 := rfl
      rw [this]; grind
    rw [e]
    exact a2.add a2
  have o1 := told_is hd hN t12 c hc
  have o2 := told_is hd hN d2 c hc
  have hN2 := net_turn hd hN hs k1 k2
  have o3 := told_is hd hN2 t12 c hc
  rw [e1, e2] at o1 o2
  have hsz := fun i hi => hN.hsz (i := i) hd t12 hi
  have z2 : Sz 4 ((2 : Int) : Q d) := by
    have := (nat_dn (d := d) 2).sz (k := 4) (by decide) (by decide) (by decide)
    exact this
  have L2e : PyData.tuple [.int 2, .int 0, .int 1] = L ((2 : Int) : Q d) := L_int 2
  have tz : Sz 10 top := t12.sz (by decide) (by decide) (by decide)
  have w2 : f__law_times [.int (d : Int), .tuple [.int 2, .int 0, .int 1], L top] = some (false, L (((2 : Int) : Q d) * top)) := by
    rw [L2e]; exact law_times_is hd z2 tz (by decide)
  rw [← encR_congr (hts_turned hN hN2)] at o3
  rw [← encR_congr (hts_times hN)] at o2
  have n1 := hd_ne_self (hd_R (n + 2) (hts n ts top)) (by decide)
  have n2 := hd_ne_self (hd_R (n + 2) fun i => ((2 : Int) : Q d) * hts n ts top i) (by decide)
  generalize hts n ts top = H at *
  have e4 : (ts.map fun t => ((t.2.1, t.1, k * t.2.2) : Nt d)).map encPt = net.map fun p => encP2 (p.2, p.1) := by
    rw [List.map_map]
    show ((net.zip X).map _).map _ = _
    rw [List.map_map]
    exact zip_map _ (fun p : Nat × Nat => encP2 (p.2, p.1)) (fun p => rfl) net X x1.symm
  have e5 : ((ts.map fun t => ((t.2.1, t.1, k * t.2.2) : Nt d)).map fun t => L t.2.2) = X.map fun x => L (k * x) := by
    rw [List.map_map]
    show ((net.zip X).map _).map _ = _
    rw [List.map_map]
    exact zip_map2 _ (fun x : Q d => L (k * x)) (fun p => rfl) net X x1.symm
  rw [e4, e5] at o3
  refine ⟨net.map encP2, X.map L, net.map fun p => encP2 (p.2, p.1), X.map fun x => L (k * x), (List.range (n + 2)).map fun j => L (H j), (List.range (n + 2)).map fun j => L (((2 : Int) : Q d) * H j), net.length, L top, L (((2 : Int) : Q d) * top), L k, by rw [hc, hm]; exact c4, hlen (en := encP2) net, n_rng1 (by omega), ⟨s7, s8, x3⟩, a3, o1, w2, o2, ?_, n2, k3, ?_, ?_, o3, n1, nolist_R _ _, nolist_R _ _⟩
  · intro b s1 s3 s4 s5 s6 s7 s8 s9 s11 s13 s14 s15 s16
    unfold ic_law_2
    simp only [q_wipeR_1, q_wipeR_2, q_asg_1, q_asg_2, q_asg_3, q_asg_4, q_asg_5, q_asg_6, q_asg_7, q_asgR_1, q_ownedArg_1, q_ownedArgs_1, q_ownedArgs_2, q_itemsOf_1, q_itemsOf_2, q_evE_1, q_evE_2, q_evE_3, q_evE_4, q_evE_5, q_evE_6, q_evE_7, q_evE_8, q_evE_9, q_evE_10, q_evE_11, q_evE_12, q_evE_13, q_evE_14, q_evE_15, q_evE_16, q_evE_17, q_evE_18, q_evE_19, q_evE_20, q_evE_21, q_evE_22, q_evE_23, q_evE_24, q_evE_25, q_evEs_1, q_evEs_2, q_evP_1, q_evP_2, q_evC_1, q_evC_2, q_evI_1, q_evI_2, q_evRet_1, q_evS_1, q_evS_2, q_evS_3, q_evS_4, q_evS_5, q_evS_6, q_evS_7, q_evS_8, q_evS_9, q_evS_10, q_evS_11, q_evS_12, q_evS_13, q_evS_14, q_evS_15, q_evS_16, q_evS_17, q_evS_18, q_evS_19, q_evS_20, q_evS_21, q_evSs_1, q_evSs_2, q_oa_0, q_rt_0, q_oa_1, q_rt_1, q_oa_2, q_rt_2, q_oa_3, q_rt_3, q_oa_4, q_rt_4, q_oa_5, q_rt_5, q_oa_6, q_rt_6, q_oa_7, q_rt_7, q_oa_8, q_rt_8, q_oa_9, q_rt_9, q_oa_10, q_rt_10, q_oa_11, q_rt_11, q_oa_12, q_rt_12, q_oa_13, q_rt_13, q_oa_14, q_rt_14, q_oa_15, q_rt_15, q_oa_16, q_rt_16, q_oa_17, q_rt_17, q_oa_18, q_rt_18, q_oa_19, q_rt_19, q_oa_20, q_rt_20, q_oa_21, q_rt_21, q_oa_22, q_rt_22, q_oa_23, q_rt_23, q_ar_0, q_ar_1, q_ar_2, asI_i, q_less1, q_less2, q_less3, q_slot, q_rows, q_dict, q_asInt, q_listIt, q_rowR, q_ret, q_bind, q_bindn, q_map, q_mapn, q_evT, q_own, startR, List.getElem?_cons_succ, List.getElem?_cons_zero, List.set_cons_succ, List.set_cons_zero, List.map_cons, List.map_nil, List.replicate, List.length_cons, List.length_nil, List.append_eq, List.nil_append, List.cons_append, Bool.and_true, Bool.true_and, Bool.and_false, Bool.false_and, Bool.not_true, Bool.not_false, if_true, if_false, reduceCtorEq, Nat.reduceSub, Nat.reduceAdd, Nat.reduceLeDiff, Bool.false_eq_true, Bool.or_false, Bool.false_or, ite_true, ite_false, lenOk_0, lenOk_1, lenOk_2, lenOk_3, lenOk_4, lenOk_5, lenOk_6, lenOk_7, lenOk_8, i_add, i_sub, i_neg, i_asI, N_int, i_inti, i_intb, decide_true, decide_false]
    rw [compGo_map (enc := fun j : Nat => L (H j)) (en2 := fun j : Nat => L (((2 : Int) : Q d) * H j)) (fun j : Nat => some j)]
    · rw [List.filterMap_some]; rfl
    · intro j hj
      rw [List.mem_range] at hj
      have e := law_times_is hd z2 (hsz j hj) (by decide)
      rw [← L2e] at e
      simp only [q_wipeR_1, q_wipeR_2, q_asg_1, q_asg_2, q_asg_3, q_asg_4, q_asg_5, q_asg_6, q_asg_7, q_asgR_1, q_ownedArg_1, q_ownedArgs_1, q_ownedArgs_2, q_itemsOf_1, q_itemsOf_2, q_evE_1, q_evE_2, q_evE_3, q_evE_4, q_evE_5, q_evE_6, q_evE_7, q_evE_8, q_evE_9, q_evE_10, q_evE_11, q_evE_12, q_evE_13, q_evE_14, q_evE_15, q_evE_16, q_evE_17, q_evE_18, q_evE_19, q_evE_20, q_evE_21, q_evE_22, q_evE_23, q_evE_24, q_evE_25, q_evEs_1, q_evEs_2, q_evP_1, q_evP_2, q_evC_1, q_evC_2, q_evI_1, q_evI_2, q_evRet_1, q_evS_1, q_evS_2, q_evS_3, q_evS_4, q_evS_5, q_evS_6, q_evS_7, q_evS_8, q_evS_9, q_evS_10, q_evS_11, q_evS_12, q_evS_13, q_evS_14, q_evS_15, q_evS_16, q_evS_17, q_evS_18, q_evS_19, q_evS_20, q_evS_21, q_evSs_1, q_evSs_2, q_oa_0, q_rt_0, q_oa_1, q_rt_1, q_oa_2, q_rt_2, q_oa_3, q_rt_3, q_oa_4, q_rt_4, q_oa_5, q_rt_5, q_oa_6, q_rt_6, q_oa_7, q_rt_7, q_oa_8, q_rt_8, q_oa_9, q_rt_9, q_oa_10, q_rt_10, q_oa_11, q_rt_11, q_oa_12, q_rt_12, q_oa_13, q_rt_13, q_oa_14, q_rt_14, q_oa_15, q_rt_15, q_oa_16, q_rt_16, q_oa_17, q_rt_17, q_oa_18, q_rt_18, q_oa_19, q_rt_19, q_oa_20, q_rt_20, q_oa_21, q_rt_21, q_oa_22, q_rt_22, q_oa_23, q_rt_23, q_ar_0, q_ar_1, q_ar_2, asI_i, q_less1, q_less2, q_less3, q_slot, q_rows, q_dict, q_asInt, q_listIt, q_rowR, q_ret, q_bind, q_bindn, q_map, q_mapn, q_evT, q_own, startR, List.getElem?_cons_succ, List.getElem?_cons_zero, List.set_cons_succ, List.set_cons_zero, List.map_cons, List.map_nil, List.replicate, List.length_cons, List.length_nil, List.append_eq, List.nil_append, List.cons_append, Bool.and_true, Bool.true_and, Bool.and_false, Bool.false_and, Bool.not_true, Bool.not_false, if_true, if_false, reduceCtorEq, Nat.reduceSub, Nat.reduceAdd, Nat.reduceLeDiff, Bool.false_eq_true, Bool.or_false, Bool.false_or, ite_true, ite_false, lenOk_0, lenOk_1, lenOk_2, lenOk_3, lenOk_4, lenOk_5, lenOk_6, lenOk_7, lenOk_8, i_add, i_sub, i_neg, i_asI, N_int, i_inti, i_intb, decide_true, decide_false, e]
  · intro b s1 s2 s3 s4 s6 s7 s8 s9 s10 s11 s12 s15 s16
    unfold ic_law_3
    simp only [q_wipeR_1, q_wipeR_2, q_asg_1, q_asg_2, q_asg_3, q_asg_4, q_asg_5, q_asg_6, q_asg_7, q_asgR_1, q_ownedArg_1, q_ownedArgs_1, q_ownedArgs_2, q_itemsOf_1, q_itemsOf_2, q_evE_1, q_evE_2, q_evE_3, q_evE_4, q_evE_5, q_evE_6, q_evE_7, q_evE_8, q_evE_9, q_evE_10, q_evE_11, q_evE_12, q_evE_13, q_evE_14, q_evE_15, q_evE_16, q_evE_17, q_evE_18, q_evE_19, q_evE_20, q_evE_21, q_evE_22, q_evE_23, q_evE_24, q_evE_25, q_evEs_1, q_evEs_2, q_evP_1, q_evP_2, q_evC_1, q_evC_2, q_evI_1, q_evI_2, q_evRet_1, q_evS_1, q_evS_2, q_evS_3, q_evS_4, q_evS_5, q_evS_6, q_evS_7, q_evS_8, q_evS_9, q_evS_10, q_evS_11, q_evS_12, q_evS_13, q_evS_14, q_evS_15, q_evS_16, q_evS_17, q_evS_18, q_evS_19, q_evS_20, q_evS_21, q_evSs_1, q_evSs_2, q_oa_0, q_rt_0, q_oa_1, q_rt_1, q_oa_2, q_rt_2, q_oa_3, q_rt_3, q_oa_4, q_rt_4, q_oa_5, q_rt_5, q_oa_6, q_rt_6, q_oa_7, q_rt_7, q_oa_8, q_rt_8, q_oa_9, q_rt_9, q_oa_10, q_rt_10, q_oa_11, q_rt_11, q_oa_12, q_rt_12, q_oa_13, q_rt_13, q_oa_14, q_rt_14, q_oa_15, q_rt_15, q_oa_16, q_rt_16, q_oa_17, q_rt_17, q_oa_18, q_rt_18, q_oa_19, q_rt_19, q_oa_20, q_rt_20, q_oa_21, q_rt_21, q_oa_22, q_rt_22, q_oa_23, q_rt_23, q_ar_0, q_ar_1, q_ar_2, asI_i, q_less1, q_less2, q_less3, q_slot, q_rows, q_dict, q_asInt, q_listIt, q_rowR, q_ret, q_bind, q_bindn, q_map, q_mapn, q_evT, q_own, startR, List.getElem?_cons_succ, List.getElem?_cons_zero, List.set_cons_succ, List.set_cons_zero, List.map_cons, List.map_nil, List.replicate, List.length_cons, List.length_nil, List.append_eq, List.nil_append, List.cons_append, Bool.and_true, Bool.true_and, Bool.and_false, Bool.false_and, Bool.not_true, Bool.not_false, if_true, if_false, reduceCtorEq, Nat.reduceSub, Nat.reduceAdd, Nat.reduceLeDiff, Bool.false_eq_true, Bool.or_false, Bool.false_or, ite_true, ite_false, lenOk_0, lenOk_1, lenOk_2, lenOk_3, lenOk_4, lenOk_5, lenOk_6, lenOk_7, lenOk_8, i_add, i_sub, i_neg, i_asI, N_int, i_inti, i_intb, decide_true, decide_false]
    rw [compGo_map (enc := encP2) (en2 := fun p : Nat × Nat => encP2 (p.2, p.1)) (fun p : Nat × Nat => some p)]
    · rw [List.filterMap_some]; rfl
    · intro p hp
      simp only [q_wipeR_1, q_wipeR_2, q_asg_1, q_asg_2, q_asg_3, q_asg_4, q_asg_5, q_asg_6, q_asg_7, q_asgR_1, q_ownedArg_1, q_ownedArgs_1, q_ownedArgs_2, q_itemsOf_1, q_itemsOf_2, q_evE_1, q_evE_2, q_evE_3, q_evE_4, q_evE_5, q_evE_6, q_evE_7, q_evE_8, q_evE_9, q_evE_10, q_evE_11, q_evE_12, q_evE_13, q_evE_14, q_evE_15, q_evE_16, q_evE_17, q_evE_18, q_evE_19, q_evE_20, q_evE_21, q_evE_22, q_evE_23, q_evE_24, q_evE_25, q_evEs_1, q_evEs_2, q_evP_1, q_evP_2, q_evC_1, q_evC_2, q_evI_1, q_evI_2, q_evRet_1, q_evS_1, q_evS_2, q_evS_3, q_evS_4, q_evS_5, q_evS_6, q_evS_7, q_evS_8, q_evS_9, q_evS_10, q_evS_11, q_evS_12, q_evS_13, q_evS_14, q_evS_15, q_evS_16, q_evS_17, q_evS_18, q_evS_19, q_evS_20, q_evS_21, q_evSs_1, q_evSs_2, q_oa_0, q_rt_0, q_oa_1, q_rt_1, q_oa_2, q_rt_2, q_oa_3, q_rt_3, q_oa_4, q_rt_4, q_oa_5, q_rt_5, q_oa_6, q_rt_6, q_oa_7, q_rt_7, q_oa_8, q_rt_8, q_oa_9, q_rt_9, q_oa_10, q_rt_10, q_oa_11, q_rt_11, q_oa_12, q_rt_12, q_oa_13, q_rt_13, q_oa_14, q_rt_14, q_oa_15, q_rt_15, q_oa_16, q_rt_16, q_oa_17, q_rt_17, q_oa_18, q_rt_18, q_oa_19, q_rt_19, q_oa_20, q_rt_20, q_oa_21, q_rt_21, q_oa_22, q_rt_22, q_oa_23, q_rt_23, q_ar_0, q_ar_1, q_ar_2, asI_i, q_less1, q_less2, q_less3, q_slot, q_rows, q_dict, q_asInt, q_listIt, q_rowR, q_ret, q_bind, q_bindn, q_map, q_mapn, q_evT, q_own, startR, List.getElem?_cons_succ, List.getElem?_cons_zero, List.set_cons_succ, List.set_cons_zero, List.map_cons, List.map_nil, List.replicate, List.length_cons, List.length_nil, List.append_eq, List.nil_append, List.cons_append, Bool.and_true, Bool.true_and, Bool.and_false, Bool.false_and, Bool.not_true, Bool.not_false, if_true, if_false, reduceCtorEq, Nat.reduceSub, Nat.reduceAdd, Nat.reduceLeDiff, Bool.false_eq_true, Bool.or_false, Bool.false_or, ite_true, ite_false, lenOk_0, lenOk_1, lenOk_2, lenOk_3, lenOk_4, lenOk_5, lenOk_6, lenOk_7, lenOk_8, i_add, i_sub, i_neg, i_asI, N_int, i_inti, i_intb, decide_true, decide_false, asgP2]
      rfl
  · intro b s1 s3 s4 s5 s8 s9 s10 s11 s12 s13 s14 s16
    unfold ic_law_4
    simp only [q_wipeR_1, q_wipeR_2, q_asg_1, q_asg_2, q_asg_3, q_asg_4, q_asg_5, q_asg_6, q_asg_7, q_asgR_1, q_ownedArg_1, q_ownedArgs_1, q_ownedArgs_2, q_itemsOf_1, q_itemsOf_2, q_evE_1, q_evE_2, q_evE_3, q_evE_4, q_evE_5, q_evE_6, q_evE_7, q_evE_8, q_evE_9, q_evE_10, q_evE_11, q_evE_12, q_evE_13, q_evE_14, q_evE_15, q_evE_16, q_evE_17, q_evE_18, q_evE_19, q_evE_20, q_evE_21, q_evE_22, q_evE_23, q_evE_24, q_evE_25, q_evEs_1, q_evEs_2, q_evP_1, q_evP_2, q_evC_1, q_evC_2, q_evI_1, q_evI_2, q_evRet_1, q_evS_1, q_evS_2, q_evS_3, q_evS_4, q_evS_5, q_evS_6, q_evS_7, q_evS_8, q_evS_9, q_evS_10, q_evS_11, q_evS_12, q_evS_13, q_evS_14, q_evS_15, q_evS_16, q_evS_17, q_evS_18, q_evS_19, q_evS_20, q_evS_21, q_evSs_1, q_evSs_2, q_oa_0, q_rt_0, q_oa_1, q_rt_1, q_oa_2, q_rt_2, q_oa_3, q_rt_3, q_oa_4, q_rt_4, q_oa_5, q_rt_5, q_oa_6, q_rt_6, q_oa_7, q_rt_7, q_oa_8, q_rt_8, q_oa_9, q_rt_9, q_oa_10, q_rt_10, q_oa_11, q_rt_11, q_oa_12, q_rt_12, q_oa_13, q_rt_13, q_oa_14, q_rt_14, q_oa_15, q_rt_15, q_oa_16, q_rt_16, q_oa_17, q_rt_17, q_oa_18, q_rt_18, q_oa_19, q_rt_19, q_oa_20, q_rt_20, q_oa_21, q_rt_21, q_oa_22, q_rt_22, q_oa_23, q_rt_23, q_ar_0, q_ar_1, q_ar_2, asI_i, q_less1, q_less2, q_less3, q_slot, q_rows, q_dict, q_asInt, q_listIt, q_rowR, q_ret, q_bind, q_bindn, q_map, q_mapn, q_evT, q_own, startR, List.getElem?_cons_succ, List.getElem?_cons_zero, List.set_cons_succ, List.set_cons_zero, List.map_cons, List.map_nil, List.replicate, List.length_cons, List.length_nil, List.append_eq, List.nil_append, List.cons_append, Bool.and_true, Bool.true_and, Bool.and_false, Bool.false_and, Bool.not_true, Bool.not_false, if_true, if_false, reduceCtorEq, Nat.reduceSub, Nat.reduceAdd, Nat.reduceLeDiff, Bool.false_eq_true, Bool.or_false, Bool.false_or, ite_true, ite_false, lenOk_0, lenOk_1, lenOk_2, lenOk_3, lenOk_4, lenOk_5, lenOk_6, lenOk_7, lenOk_8, i_add, i_sub, i_neg, i_asI, N_int, i_inti, i_intb, decide_true, decide_false]
    rw [compGo_map (enc := fun x : Q d => L x) (en2 := fun x : Q d => L (k * x)) (fun x : Q d => some x)]
    · rw [List.filterMap_some]; rfl
    · intro x hx
      have zx : Sz 10 x := (x2 x hx).2.sz (by decide) (by decide) (by decide)
      have e := law_times_is hd kz zx (by decide)
      simp only [q_wipeR_1, q_wipeR_2, q_asg_1, q_asg_2, q_asg_3, q_asg_4, q_asg_5, q_asg_6, q_asg_7, q_asgR_1, q_ownedArg_1, q_ownedArgs_1, q_ownedArgs_2, q_itemsOf_1, q_itemsOf_2, q_evE_1, q_evE_2, q_evE_3, q_evE_4, q_evE_5, q_evE_6, q_evE_7, q_evE_8, q_evE_9, q_evE_10, q_evE_11, q_evE_12, q_evE_13, q_evE_14, q_evE_15, q_evE_16, q_evE_17, q_evE_18, q_evE_19, q_evE_20, q_evE_21, q_evE_22, q_evE_23, q_evE_24, q_evE_25, q_evEs_1, q_evEs_2, q_evP_1, q_evP_2, q_evC_1, q_evC_2, q_evI_1, q_evI_2, q_evRet_1, q_evS_1, q_evS_2, q_evS_3, q_evS_4, q_evS_5, q_evS_6, q_evS_7, q_evS_8, q_evS_9, q_evS_10, q_evS_11, q_evS_12, q_evS_13, q_evS_14, q_evS_15, q_evS_16, q_evS_17, q_evS_18, q_evS_19, q_evS_20, q_evS_21, q_evSs_1, q_evSs_2, q_oa_0, q_rt_0, q_oa_1, q_rt_1, q_oa_2, q_rt_2, q_oa_3, q_rt_3, q_oa_4, q_rt_4, q_oa_5, q_rt_5, q_oa_6, q_rt_6, q_oa_7, q_rt_7, q_oa_8, q_rt_8, q_oa_9, q_rt_9, q_oa_10, q_rt_10, q_oa_11, q_rt_11, q_oa_12, q_rt_12, q_oa_13, q_rt_13, q_oa_14, q_rt_14, q_oa_15, q_rt_15, q_oa_16, q_rt_16, q_oa_17, q_rt_17, q_oa_18, q_rt_18, q_oa_19, q_rt_19, q_oa_20, q_rt_20, q_oa_21, q_rt_21, q_oa_22, q_rt_22, q_oa_23, q_rt_23, q_ar_0, q_ar_1, q_ar_2, asI_i, q_less1, q_less2, q_less3, q_slot, q_rows, q_dict, q_asInt, q_listIt, q_rowR, q_ret, q_bind, q_bindn, q_map, q_mapn, q_evT, q_own, startR, List.getElem?_cons_succ, List.getElem?_cons_zero, List.set_cons_succ, List.set_cons_zero, List.map_cons, List.map_nil, List.replicate, List.length_cons, List.length_nil, List.append_eq, List.nil_append, List.cons_append, Bool.and_true, Bool.true_and, Bool.and_false, Bool.false_and, Bool.not_true, Bool.not_false, if_true, if_false, reduceCtorEq, Nat.reduceSub, Nat.reduceAdd, Nat.reduceLeDiff, Bool.false_eq_true, Bool.or_false, Bool.false_or, ite_true, ite_false, lenOk_0, lenOk_1, lenOk_2, lenOk_3, lenOk_4, lenOk_5, lenOk_6, lenOk_7, lenOk_8, i_add, i_sub, i_neg, i_asI, N_int, i_inti, i_intb, decide_true, decide_false, e]
end K81

set_option Elab.async false
set_option linter.all false
set_option maxRecDepth 100000
set_option maxHeartbeats 4000000
namespace K81
open PySem L2 PV Qu LX
open Classical
theorem q1_pos {d : Nat} [NSq d] : (0 : Q d) < 1 := natQ_pos (n := 1) (by decide)
theorem q1_dn {d : Nat} [NSq d] : Dn 144 BS (1 : Q d) := ((nat_dn (d := d) 1).up (T := 144) (k := 144) rfl).mono (by decide)
theorem rt_pos : (0 : Q 2) < ⟨0, 1⟩ := by
  show Q.pos (⟨0, 1⟩ - 0 : Q 2)
  have e : (⟨0, 1⟩ - 0 : Q 2) = ⟨0, 1⟩ := by apply ext' <;> decide +kernel
  rw [e]
  exact .inr ⟨by decide +kernel, by decide +kernel⟩
theorem L_of {d : Nat} {p q : Int} {x : Q d} (e : mkQ d p q 1 = x) (h : (mkQ d p q 1).p = p ∧ (mkQ d p q 1).q = q ∧ (mkQ d p q 1).s = 1) : PyData.tuple [.int p, .int q, .int 1] = L x := by
  rw [← e]
  unfold L
  rw [h.1, h.2.1, h.2.2]
theorem con1 : f_heights_by [.int 2, .int 3, .list [.tuple [.int 0, .int 1], .tuple [.int 1, .int 2], .tuple [.int 1, .int 2]], .list [.tuple [.int 1, .int 0, .int 1], .tuple [.int 1, .int 0, .int 1], .tuple [.int 1, .int 0, .int 1]], .tuple [.int 3, .int 0, .int 1]] = some (true, .list [.tuple [.int 0, .int 0, .int 1], .tuple [.int 2, .int 0, .int 1], .tuple [.int 3, .int 0, .int 1]]) := by
  haveI : NSq 2 := (nsq_roots (d := 2) (by decide)).2
  let ts : List (Nt 2) := [(0, 1, 1), (1, 2, 1), (1, 2, 1)]
  have m : ∀ t ∈ ts, t = (0, 1, 1) ∨ t = (1, 2, 1) := fun t ht => by
    show _ ∨ _
    simp only [ts, List.mem_cons, List.not_mem_nil, or_false] at ht
    grind
  have hN : Net 1 ts := by
    refine ⟨by decide, by decide, fun t ht => ?_, fun t ht => ?_, fun t ht => ?_, conn_of fun k k1 k2 => ?_⟩
    · rcases m t ht with rfl | rfl <;> decide
    · rcases m t ht with rfl | rfl <;> exact q1_pos
    · rcases m t ht with rfl | rfl <;> exact q1_dn
    · have : k = 1 ∨ k = 2 := by omega
      rcases this with rfl | rfl
      · exact ⟨0, by decide, (0, 1, 1), by simp [ts], .inl ⟨rfl, rfl⟩⟩
      · exact ⟨1, by decide, (1, 2, 1), by simp [ts], .inl ⟨rfl, rfl⟩⟩
  have t3 : Dn 12 192 (((3 : Nat) : Int) : Q 2) := ((nat_dn (d := 2) 3).up (T := 12) (k := 12) rfl).mono (by decide)
  have o := hN.heights (by decide) t3
  let g : Nat → Q 2 := fun i => if i = 0 then 0 else if i = 1 then 2 else 3
  have hg := hts_only (g := g) (top := (((3 : Nat) : Int) : Q 2)) hN.ix hN.pos hN.conn rfl rfl fun l h1 h2 => by
    have : l = 1 := by omega
    subst this
    apply ext' <;> decide +kernel
  rw [← encR_congr hg] at o
  have r0 : PyData.tuple [.int 0, .int 0, .int 1] = L (((0 : Nat) : Int) : Q 2) := L_int (((0 : Nat)) : Int)
  have r1 : PyData.tuple [.int 1, .int 0, .int 1] = L (((1 : Nat) : Int) : Q 2) := L_int (((1 : Nat)) : Int)
  have r2 : PyData.tuple [.int 2, .int 0, .int 1] = L (((2 : Nat) : Int) : Q 2) := L_int (((2 : Nat)) : Int)
  have r3 : PyData.tuple [.int 3, .int 0, .int 1] = L (((3 : Nat) : Int) : Q 2) := L_int (((3 : Nat)) : Int)
  rw [r0, r1, r2, r3]
  exact o
theorem con2 : f_heights_by [.int 3, .int 2, .list [.tuple [.int 0, .int 1]], .list [.tuple [.int 1, .int 0, .int 1]], .tuple [.int 0, .int 1, .int 1]] = some (true, .list [.tuple [.int 0, .int 0, .int 1], .tuple [.int 0, .int 1, .int 1]]) := by
  haveI : NSq 3 := (nsq_roots (d := 3) (by decide)).2
  let ts : List (Nt 3) := [(0, 1, 1)]
  have m : ∀ t ∈ ts, t = (0, 1, 1) := fun t ht => by
    simp only [ts, List.mem_cons, List.not_mem_nil, or_false] at ht
    exact ht
  have hN : Net 0 ts := by
    refine ⟨by decide, by decide, fun t ht => ?_, fun t ht => ?_, fun t ht => ?_, conn_of fun k k1 k2 => ?_⟩
    · rw [m t ht]; decide
    · rw [m t ht]; exact q1_pos
    · rw [m t ht]; exact q1_dn
    · have : k = 1 := by omega
      subst this
      exact ⟨0, by decide, (0, 1, 1), by simp [ts], .inl ⟨rfl, rfl⟩⟩
  have t3 : Dn 12 192 (mkQ 3 0 1 ((1 : Nat) : Int)) := (dn_mk (d := 3) (p := 0) (q := 1) (s := 1) (k := 12) (P := 1) (by decide) (by decide) (by decide)).mono (by decide)
  have o := hN.heights (by decide) t3
  let g : Nat → Q 3 := fun i => if i = 0 then 0 else mkQ 3 0 1 ((1 : Nat) : Int)
  have hg := hts_only (g := g) (top := mkQ 3 0 1 ((1 : Nat) : Int)) hN.ix hN.pos hN.conn rfl rfl fun l h1 h2 => by
    omega
  rw [← encR_congr hg] at o
  have e : PyData.tuple [.int 0, .int 1, .int 1] = L (mkQ 3 0 1 ((1 : Nat) : Int)) := L_of rfl (by decide +kernel)
  have r0 : PyData.tuple [.int 0, .int 0, .int 1] = L (((0 : Nat) : Int) : Q 3) := L_int (((0 : Nat)) : Int)
  have r1 : PyData.tuple [.int 1, .int 0, .int 1] = L (((1 : Nat) : Int) : Q 3) := L_int (((1 : Nat)) : Int)
  rw [r0, r1]
  rw [e]
  exact o
theorem con3 : f_heights_by [.int 2, .int 3, .list [.tuple [.int 0, .int 1], .tuple [.int 2, .int 1], .tuple [.int 0, .int 0]], .list [.tuple [.int 0, .int 1, .int 1], .tuple [.int 1, .int 0, .int 1], .tuple [.int 1, .int 0, .int 1]], .tuple [.int 1, .int 0, .int 1]] = some (true, .list [.tuple [.int 0, .int 0, .int 1], .tuple [.int (-1), .int 1, .int 1], .tuple [.int 1, .int 0, .int 1]]) := by
  haveI : NSq 2 := (nsq_roots (d := 2) (by decide)).2
  let w : Q 2 := mkQ 2 0 1 ((1 : Nat) : Int)
  have ew : w = ⟨0, 1⟩ := mkQ_of (by decide) (by decide +kernel) (by decide +kernel)
  let ts : List (Nt 2) := [(0, 1, w), (2, 1, 1), (0, 0, 1)]
  have m : ∀ t ∈ ts, t = (0, 1, w) ∨ t = (2, 1, 1) ∨ t = (0, 0, 1) := fun t ht => by
    simp only [ts, List.mem_cons, List.not_mem_nil, or_false] at ht
    exact ht
  have dw : Dn 144 BS w := (dn_mk (d := 2) (p := 0) (q := 1) (s := 1) (k := 144) (P := 1) (by decide) (by decide) (by decide)).mono (by decide)
  have hN : Net 1 ts := by
    refine ⟨by decide, by decide, fun t ht => ?_, fun t ht => ?_, fun t ht => ?_, conn_of fun k k1 k2 => ?_⟩
    · rcases m t ht with rfl | rfl | rfl <;> exact ⟨by decide, by decide⟩
    · rcases m t ht with rfl | rfl | rfl
      · show 0 < w; rw [ew]; exact rt_pos
      · exact q1_pos
      · exact q1_pos
    · rcases m t ht with rfl | rfl | rfl
      · exact dw
      · exact q1_dn
      · exact q1_dn
    · have : k = 1 ∨ k = 2 := by omega
      rcases this with rfl | rfl
      · exact ⟨0, by decide, (0, 1, w), by simp [ts], .inl ⟨rfl, rfl⟩⟩
      · exact ⟨1, by decide, (2, 1, 1), by simp [ts], .inr ⟨rfl, rfl⟩⟩
  have t3 : Dn 12 192 (((1 : Nat) : Int) : Q 2) := ((nat_dn (d := 2) 1).up (T := 12) (k := 12) rfl).mono (by decide)
  have o := hN.heights (by decide) t3
  let g : Nat → Q 2 := fun i => if i = 0 then 0 else if i = 1 then mkQ 2 (-1) 1 ((1 : Nat) : Int) else 1
  have eg : mkQ 2 (-1) 1 ((1 : Nat) : Int) = ⟨-1, 1⟩ := mkQ_of (by decide) (by decide +kernel) (by decide +kernel)
  have hg := hts_only (g := g) (top := (((1 : Nat) : Int) : Q 2)) hN.ix hN.pos hN.conn rfl rfl fun l h1 h2 => by
    have : l = 1 := by omega
    subst this
    show w * ((0 - 1) * (0 - mkQ 2 (-1) 1 ((1 : Nat) : Int))) + (1 * ((0 - 1) * (1 - mkQ 2 (-1) 1 ((1 : Nat) : Int))) + (1 * ((0 - 0) * (0 - 0)) + 0)) = (0 : Q 2)
    rw [eg, ew]
    apply ext' <;> decide +kernel
  rw [← encR_congr hg] at o
  have e1 : PyData.tuple [.int 0, .int 1, .int 1] = L w := L_of rfl (by decide +kernel)
  have e2 : PyData.tuple [.int (-1), .int 1, .int 1] = L (mkQ 2 (-1) 1 ((1 : Nat) : Int)) := L_of rfl (by decide +kernel)
  have r0 : PyData.tuple [.int 0, .int 0, .int 1] = L (((0 : Nat) : Int) : Q 2) := L_int (((0 : Nat)) : Int)
  have r1 : PyData.tuple [.int 1, .int 0, .int 1] = L (((1 : Nat) : Int) : Q 2) := L_int (((1 : Nat)) : Int)
  rw [r0, r1]
  rw [e1, e2]
  exact o
theorem law_true (ns : List Int) (hl : ns.length ≤ 63) : f_law [.list (ns.map .int)] = some (false, .bool true) := by
  obtain ⟨l, h60, e1⟩ := law_draws_is hl 60 (by decide)
  have e1 : f__law_draws [.list (ns.map .int), .int 60] = some (true, .list (l.map N)) := e1
  have x0 : evIx (.list (l.map N)) (.int 0) = some (false, .int (l.getD 0 0 : Nat)) := ix_getD (k := 0) (by omega)
  have x1 : evIx (.list (l.map N)) (.int 1) = some (false, .int (l.getD 1 0 : Nat)) := ix_getD (k := 1) (by omega)
  have x2 : evIx (.list (l.map N)) (.int 2) = some (false, .int (l.getD 2 0 : Nat)) := ix_getD (k := 2) (by omega)
  have x3 : evIx (.list (l.map N)) (.int 3) = some (false, .int (l.getD 3 0 : Nat)) := ix_getD (k := 3) (by omega)
  obtain ⟨d, hd, er⟩ := root_is (l.getD 0 0)
  obtain ⟨h64, hn⟩ := nsq_roots hd
  obtain ⟨A, hA⟩ := aboves (d := d) (l := l) h64
  have h5 : (0 : Int) < 5 := by decide
  have h16 : (0 : Int) < 16 := by decide
  have h2 : (0 : Int) < 2 := by decide
  have k1 := con1
  have k2 := con2
  have k3 := con3
  have nA : evCmp .ne (PyData.list [.tuple [.int 0, .int 0, .int 1], .tuple [.int 2, .int 0, .int 1], .tuple [.int 3, .int 0, .int 1]]) (.list [.tuple [.int 0, .int 0, .int 1], .tuple [.int 2, .int 0, .int 1], .tuple [.int 3, .int 0, .int 1]]) = some false := by decide +kernel
  have nB : evCmp .ne (PyData.list [.tuple [.int 0, .int 0, .int 1], .tuple [.int 0, .int 1, .int 1]]) (.list [.tuple [.int 0, .int 0, .int 1], .tuple [.int 0, .int 1, .int 1]]) = some false := by decide +kernel
  have nC : evCmp .eq (PyData.list [.tuple [.int 0, .int 0, .int 1], .tuple [.int (-1), .int 1, .int 1], .tuple [.int 1, .int 0, .int 1]]) (.list [.tuple [.int 0, .int 0, .int 1], .tuple [.int (-1), .int 1, .int 1], .tuple [.int 1, .int 0, .int 1]]) = some true := by decide +kernel
  have isn : ∀ xs : List PyData, evCmp .isn (.list xs) .none = some false := fun xs => rfl
  have o3 : ∀ ρ, ownedArg ρ ic_law_3 = false := fun ρ => rfl
  have o4 : ∀ ρ, ownedArg ρ ic_law_4 = false := fun ρ => rfl
  by_cases c : (l.getD 3 0 : Int) % 16 = 5
  · have cd : decide ((l.getD 3 0 : Int) % 16 = 5) = true := decide_eq_true c
    obtain ⟨NT, SH, NT2, SH2, T1, T2, mt, tp, tp2, k, f1, f2, f3, ⟨s7, s8, f4⟩, f5, f6, f7, f8, f9, f10, f11, f12, f13, f14, f15, f16, f17⟩ := facts (l := l) h64 h60 hA (cn := 7 + l.getD 1 0 % 2) (more := l.getD 2 0 % 5) (c := 7 + (l.getD 1 0 : Int) % 2) (m := (l.getD 2 0 : Int) % 5) (by omega) (by omega) (by omega) (by omega) (by omega) (some (false, .list (ns.map .int)))
    unfold f_law evDef ir_law
    simp only [q_wipeR_1, q_wipeR_2, q_asg_1, q_asg_2, q_asg_3, q_asg_4, q_asg_5, q_asg_6, q_asg_7, q_asgR_1, q_ownedArg_1, q_ownedArgs_1, q_ownedArgs_2, q_itemsOf_1, q_itemsOf_2, q_evE_1, q_evE_2, q_evE_3, q_evE_4, q_evE_5, q_evE_6, q_evE_7, q_evE_8, q_evE_9, q_evE_10, q_evE_11, q_evE_12, q_evE_13, q_evE_14, q_evE_15, q_evE_16, q_evE_17, q_evE_18, q_evE_19, q_evE_20, q_evE_21, q_evE_22, q_evE_23, q_evE_24, q_evE_25, q_evEs_1, q_evEs_2, q_evP_1, q_evP_2, q_evC_1, q_evC_2, q_evI_1, q_evI_2, q_evRet_1, q_evS_1, q_evS_2, q_evS_3, q_evS_4, q_evS_5, q_evS_6, q_evS_7, q_evS_8, q_evS_9, q_evS_10, q_evS_11, q_evS_12, q_evS_13, q_evS_14, q_evS_15, q_evS_16, q_evS_17, q_evS_18, q_evS_19, q_evS_20, q_evS_21, q_evSs_1, q_evSs_2, q_oa_0, q_rt_0, q_oa_1, q_rt_1, q_oa_2, q_rt_2, q_oa_3, q_rt_3, q_oa_4, q_rt_4, q_oa_5, q_rt_5, q_oa_6, q_rt_6, q_oa_7, q_rt_7, q_oa_8, q_rt_8, q_oa_9, q_rt_9, q_oa_10, q_rt_10, q_oa_11, q_rt_11, q_oa_12, q_rt_12, q_oa_13, q_rt_13, q_oa_14, q_rt_14, q_oa_15, q_rt_15, q_oa_16, q_rt_16, q_oa_17, q_rt_17, q_oa_18, q_rt_18, q_oa_19, q_rt_19, q_oa_20, q_rt_20, q_oa_21, q_rt_21, q_oa_22, q_rt_22, q_oa_23, q_rt_23, q_ar_0, q_ar_1, q_ar_2, asI_i, q_less1, q_less2, q_less3, q_slot, q_rows, q_dict, q_asInt, q_listIt, q_rowR, q_ret, q_bind, q_bindn, q_map, q_mapn, q_evT, q_own, startR, List.getElem?_cons_succ, List.getElem?_cons_zero, List.set_cons_succ, List.set_cons_zero, List.map_cons, List.map_nil, List.replicate, List.length_cons, List.length_nil, List.append_eq, List.nil_append, List.cons_append, Bool.and_true, Bool.true_and, Bool.and_false, Bool.false_and, Bool.not_true, Bool.not_false, if_true, if_false, reduceCtorEq, Nat.reduceSub, Nat.reduceAdd, Nat.reduceLeDiff, Bool.false_eq_true, Bool.or_false, Bool.false_or, ite_true, ite_false, lenOk_0, lenOk_1, lenOk_2, lenOk_3, lenOk_4, lenOk_5, lenOk_6, lenOk_7, lenOk_8, i_add, i_sub, i_neg, i_asI, N_int, i_inti, i_intb, decide_true, decide_false, e1, x0, er, x1, x2, x3, i_mod h5, i_mod h16, i_mod h2, i_eq, cd, f1, f2, f3, f4, f5, f6, isn, f7, f8, f9, f10, f11, f12, f13, f14, f15, f16, f17, o3, o4, k1, k2, k3, nA, nB, nC]
  · have cd : decide ((l.getD 3 0 : Int) % 16 = 5) = false := decide_eq_false c
    obtain ⟨NT, SH, NT2, SH2, T1, T2, mt, tp, tp2, k, f1, f2, f3, ⟨s7, s8, f4⟩, f5, f6, f7, f8, f9, f10, f11, f12, f13, f14, f15, f16, f17⟩ := facts (l := l) h64 h60 hA (cn := 2 + l.getD 1 0 % 5) (more := l.getD 2 0 % 5) (c := 2 + (l.getD 1 0 : Int) % 5) (m := (l.getD 2 0 : Int) % 5) (by omega) (by omega) (by omega) (by omega) (by omega) (some (false, .list (ns.map .int)))
    unfold f_law evDef ir_law
    simp only [q_wipeR_1, q_wipeR_2, q_asg_1, q_asg_2, q_asg_3, q_asg_4, q_asg_5, q_asg_6, q_asg_7, q_asgR_1, q_ownedArg_1, q_ownedArgs_1, q_ownedArgs_2, q_itemsOf_1, q_itemsOf_2, q_evE_1, q_evE_2, q_evE_3, q_evE_4, q_evE_5, q_evE_6, q_evE_7, q_evE_8, q_evE_9, q_evE_10, q_evE_11, q_evE_12, q_evE_13, q_evE_14, q_evE_15, q_evE_16, q_evE_17, q_evE_18, q_evE_19, q_evE_20, q_evE_21, q_evE_22, q_evE_23, q_evE_24, q_evE_25, q_evEs_1, q_evEs_2, q_evP_1, q_evP_2, q_evC_1, q_evC_2, q_evI_1, q_evI_2, q_evRet_1, q_evS_1, q_evS_2, q_evS_3, q_evS_4, q_evS_5, q_evS_6, q_evS_7, q_evS_8, q_evS_9, q_evS_10, q_evS_11, q_evS_12, q_evS_13, q_evS_14, q_evS_15, q_evS_16, q_evS_17, q_evS_18, q_evS_19, q_evS_20, q_evS_21, q_evSs_1, q_evSs_2, q_oa_0, q_rt_0, q_oa_1, q_rt_1, q_oa_2, q_rt_2, q_oa_3, q_rt_3, q_oa_4, q_rt_4, q_oa_5, q_rt_5, q_oa_6, q_rt_6, q_oa_7, q_rt_7, q_oa_8, q_rt_8, q_oa_9, q_rt_9, q_oa_10, q_rt_10, q_oa_11, q_rt_11, q_oa_12, q_rt_12, q_oa_13, q_rt_13, q_oa_14, q_rt_14, q_oa_15, q_rt_15, q_oa_16, q_rt_16, q_oa_17, q_rt_17, q_oa_18, q_rt_18, q_oa_19, q_rt_19, q_oa_20, q_rt_20, q_oa_21, q_rt_21, q_oa_22, q_rt_22, q_oa_23, q_rt_23, q_ar_0, q_ar_1, q_ar_2, asI_i, q_less1, q_less2, q_less3, q_slot, q_rows, q_dict, q_asInt, q_listIt, q_rowR, q_ret, q_bind, q_bindn, q_map, q_mapn, q_evT, q_own, startR, List.getElem?_cons_succ, List.getElem?_cons_zero, List.set_cons_succ, List.set_cons_zero, List.map_cons, List.map_nil, List.replicate, List.length_cons, List.length_nil, List.append_eq, List.nil_append, List.cons_append, Bool.and_true, Bool.true_and, Bool.and_false, Bool.false_and, Bool.not_true, Bool.not_false, if_true, if_false, reduceCtorEq, Nat.reduceSub, Nat.reduceAdd, Nat.reduceLeDiff, Bool.false_eq_true, Bool.or_false, Bool.false_or, ite_true, ite_false, lenOk_0, lenOk_1, lenOk_2, lenOk_3, lenOk_4, lenOk_5, lenOk_6, lenOk_7, lenOk_8, i_add, i_sub, i_neg, i_asI, N_int, i_inti, i_intb, decide_true, decide_false, e1, x0, er, x1, x2, x3, i_mod h5, i_mod h16, i_mod h2, i_eq, cd, f1, f2, f3, f4, f5, f6, isn, f7, f8, f9, f10, f11, f12, f13, f14, f15, f16, f17, o3, o4, k1, k2, k3, nA, nB, nC]
end K81

set_option maxHeartbeats 4000000
namespace K81
open PySem PySem.Spec PyProof.Rows L2 PV
theorem all_mk {l : PySem.W.OpenLaw} {w : World} {K : PySem.W.Frag} {h : Heap} {mg : Str → Option Value} {fa : Addr} (X : K.In h) (G : h.Ns mainGlobals mg) (hfa : mg "law" = some (.ref fa))
    {f0 : Addr} {od0 an0 : Option Addr} {sl0 : Array (Option Value)} {oc0 kV0 dc0 pm0 cd0 ct0 : Value}
    (a0 : PySem.W.nsIn K mainGlobals "common_divisor" = some (some (.ref f0))) (l0 : K.lookup f0 = some ⟨oc0, od0, .func (PySem.W.fnOf "common_divisor" "common_divisor" (defArgs (topS 1)) (defBody (topS 1)) (defScope (topS 1)) .none kV0 dc0 pm0 an0 cd0 ct0), sl0⟩) (c0 : PySem.W.codeIn K cd0 "common_divisor" = true) (k0 : PySem.W.keepIn K (.ref f0) = true)
    {f1 : Addr} {od1 an1 : Option Addr} {sl1 : Array (Option Value)} {oc1 kV1 dc1 pm1 cd1 ct1 : Value}
    (a1 : PySem.W.nsIn K mainGlobals "common_of_three" = some (some (.ref f1))) (l1 : K.lookup f1 = some ⟨oc1, od1, .func (PySem.W.fnOf "common_of_three" "common_of_three" (defArgs (topS 2)) (defBody (topS 2)) (defScope (topS 2)) .none kV1 dc1 pm1 an1 cd1 ct1), sl1⟩) (c1 : PySem.W.codeIn K cd1 "common_of_three" = true) (k1 : PySem.W.keepIn K (.ref f1) = true)
    {f2 : Addr} {od2 an2 : Option Addr} {sl2 : Array (Option Value)} {oc2 kV2 dc2 pm2 cd2 ct2 : Value}
    (a2 : PySem.W.nsIn K mainGlobals "length" = some (some (.ref f2))) (l2 : K.lookup f2 = some ⟨oc2, od2, .func (PySem.W.fnOf "length" "length" (defArgs (topS 3)) (defBody (topS 3)) (defScope (topS 3)) .none kV2 dc2 pm2 an2 cd2 ct2), sl2⟩) (c2 : PySem.W.codeIn K cd2 "length" = true) (k2 : PySem.W.keepIn K (.ref f2) = true)
    {f3 : Addr} {od3 an3 : Option Addr} {sl3 : Array (Option Value)} {oc3 kV3 dc3 pm3 cd3 ct3 : Value}
    (a3 : PySem.W.nsIn K mainGlobals "whole" = some (some (.ref f3))) (l3 : K.lookup f3 = some ⟨oc3, od3, .func (PySem.W.fnOf "whole" "whole" (defArgs (topS 4)) (defBody (topS 4)) (defScope (topS 4)) .none kV3 dc3 pm3 an3 cd3 ct3), sl3⟩) (c3 : PySem.W.codeIn K cd3 "whole" = true) (k3 : PySem.W.keepIn K (.ref f3) = true)
    {f4 : Addr} {od4 an4 : Option Addr} {sl4 : Array (Option Value)} {oc4 kV4 dc4 pm4 cd4 ct4 : Value}
    (a4 : PySem.W.nsIn K mainGlobals "plus" = some (some (.ref f4))) (l4 : K.lookup f4 = some ⟨oc4, od4, .func (PySem.W.fnOf "plus" "plus" (defArgs (topS 5)) (defBody (topS 5)) (defScope (topS 5)) .none kV4 dc4 pm4 an4 cd4 ct4), sl4⟩) (c4 : PySem.W.codeIn K cd4 "plus" = true) (k4 : PySem.W.keepIn K (.ref f4) = true)
    {f5 : Addr} {od5 an5 : Option Addr} {sl5 : Array (Option Value)} {oc5 kV5 dc5 pm5 cd5 ct5 : Value}
    (a5 : PySem.W.nsIn K mainGlobals "negative" = some (some (.ref f5))) (l5 : K.lookup f5 = some ⟨oc5, od5, .func (PySem.W.fnOf "negative" "negative" (defArgs (topS 6)) (defBody (topS 6)) (defScope (topS 6)) .none kV5 dc5 pm5 an5 cd5 ct5), sl5⟩) (c5 : PySem.W.codeIn K cd5 "negative" = true) (k5 : PySem.W.keepIn K (.ref f5) = true)
    {f6 : Addr} {od6 an6 : Option Addr} {sl6 : Array (Option Value)} {oc6 kV6 dc6 pm6 cd6 ct6 : Value}
    (a6 : PySem.W.nsIn K mainGlobals "minus" = some (some (.ref f6))) (l6 : K.lookup f6 = some ⟨oc6, od6, .func (PySem.W.fnOf "minus" "minus" (defArgs (topS 7)) (defBody (topS 7)) (defScope (topS 7)) .none kV6 dc6 pm6 an6 cd6 ct6), sl6⟩) (c6 : PySem.W.codeIn K cd6 "minus" = true) (k6 : PySem.W.keepIn K (.ref f6) = true)
    {f7 : Addr} {od7 an7 : Option Addr} {sl7 : Array (Option Value)} {oc7 kV7 dc7 pm7 cd7 ct7 : Value}
    (a7 : PySem.W.nsIn K mainGlobals "times" = some (some (.ref f7))) (l7 : K.lookup f7 = some ⟨oc7, od7, .func (PySem.W.fnOf "times" "times" (defArgs (topS 8)) (defBody (topS 8)) (defScope (topS 8)) .none kV7 dc7 pm7 an7 cd7 ct7), sl7⟩) (c7 : PySem.W.codeIn K cd7 "times" = true) (k7 : PySem.W.keepIn K (.ref f7) = true)
    {f8 : Addr} {od8 an8 : Option Addr} {sl8 : Array (Option Value)} {oc8 kV8 dc8 pm8 cd8 ct8 : Value}
    (a8 : PySem.W.nsIn K mainGlobals "inverse" = some (some (.ref f8))) (l8 : K.lookup f8 = some ⟨oc8, od8, .func (PySem.W.fnOf "inverse" "inverse" (defArgs (topS 9)) (defBody (topS 9)) (defScope (topS 9)) .none kV8 dc8 pm8 an8 cd8 ct8), sl8⟩) (c8 : PySem.W.codeIn K cd8 "inverse" = true) (k8 : PySem.W.keepIn K (.ref f8) = true)
    {f9 : Addr} {od9 an9 : Option Addr} {sl9 : Array (Option Value)} {oc9 kV9 dc9 pm9 cd9 ct9 : Value}
    (a9 : PySem.W.nsIn K mainGlobals "over" = some (some (.ref f9))) (l9 : K.lookup f9 = some ⟨oc9, od9, .func (PySem.W.fnOf "over" "over" (defArgs (topS 10)) (defBody (topS 10)) (defScope (topS 10)) .none kV9 dc9 pm9 an9 cd9 ct9), sl9⟩) (c9 : PySem.W.codeIn K cd9 "over" = true) (k9 : PySem.W.keepIn K (.ref f9) = true)
    {f10 : Addr} {od10 an10 : Option Addr} {sl10 : Array (Option Value)} {oc10 kV10 dc10 pm10 cd10 ct10 : Value}
    (a10 : PySem.W.nsIn K mainGlobals "equations_of" = some (some (.ref f10))) (l10 : K.lookup f10 = some ⟨oc10, od10, .func (PySem.W.fnOf "equations_of" "equations_of" (defArgs (topS 12)) (defBody (topS 12)) (defScope (topS 12)) .none kV10 dc10 pm10 an10 cd10 ct10), sl10⟩) (c10 : PySem.W.codeIn K cd10 "equations_of" = true) (k10 : PySem.W.keepIn K (.ref f10) = true)
    {f11 : Addr} {od11 an11 : Option Addr} {sl11 : Array (Option Value)} {oc11 kV11 dc11 pm11 cd11 ct11 : Value}
    (a11 : PySem.W.nsIn K mainGlobals "without_column" = some (some (.ref f11))) (l11 : K.lookup f11 = some ⟨oc11, od11, .func (PySem.W.fnOf "without_column" "without_column" (defArgs (topS 13)) (defBody (topS 13)) (defScope (topS 13)) .none kV11 dc11 pm11 an11 cd11 ct11), sl11⟩) (c11 : PySem.W.codeIn K cd11 "without_column" = true) (k11 : PySem.W.keepIn K (.ref f11) = true)
    {f12 : Addr} {od12 an12 : Option Addr} {sl12 : Array (Option Value)} {oc12 kV12 dc12 pm12 cd12 ct12 : Value}
    (a12 : PySem.W.nsIn K mainGlobals "solved" = some (some (.ref f12))) (l12 : K.lookup f12 = some ⟨oc12, od12, .func (PySem.W.fnOf "solved" "solved" (defArgs (topS 14)) (defBody (topS 14)) (defScope (topS 14)) .none kV12 dc12 pm12 an12 cd12 ct12), sl12⟩) (c12 : PySem.W.codeIn K cd12 "solved" = true) (k12 : PySem.W.keepIn K (.ref f12) = true)
    {f13 : Addr} {od13 an13 : Option Addr} {sl13 : Array (Option Value)} {oc13 kV13 dc13 pm13 cd13 ct13 : Value}
    (a13 : PySem.W.nsIn K mainGlobals "heights_by" = some (some (.ref f13))) (l13 : K.lookup f13 = some ⟨oc13, od13, .func (PySem.W.fnOf "heights_by" "heights_by" (defArgs (topS 15)) (defBody (topS 15)) (defScope (topS 15)) .none kV13 dc13 pm13 an13 cd13 ct13), sl13⟩) (c13 : PySem.W.codeIn K cd13 "heights_by" = true) (k13 : PySem.W.keepIn K (.ref f13) = true)
    {f14 : Addr} {od14 an14 : Option Addr} {sl14 : Array (Option Value)} {oc14 kV14 dc14 pm14 cd14 ct14 : Value}
    (a14 : PySem.W.nsIn K mainGlobals "_law_draws" = some (some (.ref f14))) (l14 : K.lookup f14 = some ⟨oc14, od14, .func (PySem.W.fnOf "_law_draws" "_law_draws" (defArgs (topS 17)) (defBody (topS 17)) (defScope (topS 17)) .none kV14 dc14 pm14 an14 cd14 ct14), sl14⟩) (c14 : PySem.W.codeIn K cd14 "_law_draws" = true) (k14 : PySem.W.keepIn K (.ref f14) = true)
    {f15 : Addr} {od15 an15 : Option Addr} {sl15 : Array (Option Value)} {oc15 kV15 dc15 pm15 cd15 ct15 : Value}
    (a15 : PySem.W.nsIn K mainGlobals "_law_cell" = some (some (.ref f15))) (l15 : K.lookup f15 = some ⟨oc15, od15, .func (PySem.W.fnOf "_law_cell" "_law_cell" (defArgs (topS 18)) (defBody (topS 18)) (defScope (topS 18)) .none kV15 dc15 pm15 an15 cd15 ct15), sl15⟩) (c15 : PySem.W.codeIn K cd15 "_law_cell" = true) (k15 : PySem.W.keepIn K (.ref f15) = true)
    {f16 : Addr} {od16 an16 : Option Addr} {sl16 : Array (Option Value)} {oc16 kV16 dc16 pm16 cd16 ct16 : Value}
    (a16 : PySem.W.nsIn K mainGlobals "_law_is_number" = some (some (.ref f16))) (l16 : K.lookup f16 = some ⟨oc16, od16, .func (PySem.W.fnOf "_law_is_number" "_law_is_number" (defArgs (topS 19)) (defBody (topS 19)) (defScope (topS 19)) .none kV16 dc16 pm16 an16 cd16 ct16), sl16⟩) (c16 : PySem.W.codeIn K cd16 "_law_is_number" = true) (k16 : PySem.W.keepIn K (.ref f16) = true)
    {f17 : Addr} {od17 an17 : Option Addr} {sl17 : Array (Option Value)} {oc17 kV17 dc17 pm17 cd17 ct17 : Value}
    (a17 : PySem.W.nsIn K mainGlobals "_law_is_numbers" = some (some (.ref f17))) (l17 : K.lookup f17 = some ⟨oc17, od17, .func (PySem.W.fnOf "_law_is_numbers" "_law_is_numbers" (defArgs (topS 20)) (defBody (topS 20)) (defScope (topS 20)) .none kV17 dc17 pm17 an17 cd17 ct17), sl17⟩) (c17 : PySem.W.codeIn K cd17 "_law_is_numbers" = true) (k17 : PySem.W.keepIn K (.ref f17) = true)
    {f18 : Addr} {od18 an18 : Option Addr} {sl18 : Array (Option Value)} {oc18 kV18 dc18 pm18 cd18 ct18 : Value}
    (a18 : PySem.W.nsIn K mainGlobals "_law_root" = some (some (.ref f18))) (l18 : K.lookup f18 = some ⟨oc18, od18, .func (PySem.W.fnOf "_law_root" "_law_root" (defArgs (topS 21)) (defBody (topS 21)) (defScope (topS 21)) .none kV18 dc18 pm18 an18 cd18 ct18), sl18⟩) (c18 : PySem.W.codeIn K cd18 "_law_root" = true) (k18 : PySem.W.keepIn K (.ref f18) = true)
    {f19 : Addr} {od19 an19 : Option Addr} {sl19 : Array (Option Value)} {oc19 kV19 dc19 pm19 cd19 ct19 : Value}
    (a19 : PySem.W.nsIn K mainGlobals "_law_common" = some (some (.ref f19))) (l19 : K.lookup f19 = some ⟨oc19, od19, .func (PySem.W.fnOf "_law_common" "_law_common" (defArgs (topS 22)) (defBody (topS 22)) (defScope (topS 22)) .none kV19 dc19 pm19 an19 cd19 ct19), sl19⟩) (c19 : PySem.W.codeIn K cd19 "_law_common" = true) (k19 : PySem.W.keepIn K (.ref f19) = true)
    {f20 : Addr} {od20 an20 : Option Addr} {sl20 : Array (Option Value)} {oc20 kV20 dc20 pm20 cd20 ct20 : Value}
    (a20 : PySem.W.nsIn K mainGlobals "_law_length" = some (some (.ref f20))) (l20 : K.lookup f20 = some ⟨oc20, od20, .func (PySem.W.fnOf "_law_length" "_law_length" (defArgs (topS 23)) (defBody (topS 23)) (defScope (topS 23)) .none kV20 dc20 pm20 an20 cd20 ct20), sl20⟩) (c20 : PySem.W.codeIn K cd20 "_law_length" = true) (k20 : PySem.W.keepIn K (.ref f20) = true)
    {f21 : Addr} {od21 an21 : Option Addr} {sl21 : Array (Option Value)} {oc21 kV21 dc21 pm21 cd21 ct21 : Value}
    (a21 : PySem.W.nsIn K mainGlobals "_law_whole" = some (some (.ref f21))) (l21 : K.lookup f21 = some ⟨oc21, od21, .func (PySem.W.fnOf "_law_whole" "_law_whole" (defArgs (topS 24)) (defBody (topS 24)) (defScope (topS 24)) .none kV21 dc21 pm21 an21 cd21 ct21), sl21⟩) (c21 : PySem.W.codeIn K cd21 "_law_whole" = true) (k21 : PySem.W.keepIn K (.ref f21) = true)
    {f22 : Addr} {od22 an22 : Option Addr} {sl22 : Array (Option Value)} {oc22 kV22 dc22 pm22 cd22 ct22 : Value}
    (a22 : PySem.W.nsIn K mainGlobals "_law_plus" = some (some (.ref f22))) (l22 : K.lookup f22 = some ⟨oc22, od22, .func (PySem.W.fnOf "_law_plus" "_law_plus" (defArgs (topS 25)) (defBody (topS 25)) (defScope (topS 25)) .none kV22 dc22 pm22 an22 cd22 ct22), sl22⟩) (c22 : PySem.W.codeIn K cd22 "_law_plus" = true) (k22 : PySem.W.keepIn K (.ref f22) = true)
    {f23 : Addr} {od23 an23 : Option Addr} {sl23 : Array (Option Value)} {oc23 kV23 dc23 pm23 cd23 ct23 : Value}
    (a23 : PySem.W.nsIn K mainGlobals "_law_minus" = some (some (.ref f23))) (l23 : K.lookup f23 = some ⟨oc23, od23, .func (PySem.W.fnOf "_law_minus" "_law_minus" (defArgs (topS 26)) (defBody (topS 26)) (defScope (topS 26)) .none kV23 dc23 pm23 an23 cd23 ct23), sl23⟩) (c23 : PySem.W.codeIn K cd23 "_law_minus" = true) (k23 : PySem.W.keepIn K (.ref f23) = true)
    {f24 : Addr} {od24 an24 : Option Addr} {sl24 : Array (Option Value)} {oc24 kV24 dc24 pm24 cd24 ct24 : Value}
    (a24 : PySem.W.nsIn K mainGlobals "_law_times" = some (some (.ref f24))) (l24 : K.lookup f24 = some ⟨oc24, od24, .func (PySem.W.fnOf "_law_times" "_law_times" (defArgs (topS 27)) (defBody (topS 27)) (defScope (topS 27)) .none kV24 dc24 pm24 an24 cd24 ct24), sl24⟩) (c24 : PySem.W.codeIn K cd24 "_law_times" = true) (k24 : PySem.W.keepIn K (.ref f24) = true)
    {f25 : Addr} {od25 an25 : Option Addr} {sl25 : Array (Option Value)} {oc25 kV25 dc25 pm25 cd25 ct25 : Value}
    (a25 : PySem.W.nsIn K mainGlobals "_law_sign" = some (some (.ref f25))) (l25 : K.lookup f25 = some ⟨oc25, od25, .func (PySem.W.fnOf "_law_sign" "_law_sign" (defArgs (topS 28)) (defBody (topS 28)) (defScope (topS 28)) .none kV25 dc25 pm25 an25 cd25 ct25), sl25⟩) (c25 : PySem.W.codeIn K cd25 "_law_sign" = true) (k25 : PySem.W.keepIn K (.ref f25) = true)
    {f26 : Addr} {od26 an26 : Option Addr} {sl26 : Array (Option Value)} {oc26 kV26 dc26 pm26 cd26 ct26 : Value}
    (a26 : PySem.W.nsIn K mainGlobals "_law_is_length" = some (some (.ref f26))) (l26 : K.lookup f26 = some ⟨oc26, od26, .func (PySem.W.fnOf "_law_is_length" "_law_is_length" (defArgs (topS 29)) (defBody (topS 29)) (defScope (topS 29)) .none kV26 dc26 pm26 an26 cd26 ct26), sl26⟩) (c26 : PySem.W.codeIn K cd26 "_law_is_length" = true) (k26 : PySem.W.keepIn K (.ref f26) = true)
    {f27 : Addr} {od27 an27 : Option Addr} {sl27 : Array (Option Value)} {oc27 kV27 dc27 pm27 cd27 ct27 : Value}
    (a27 : PySem.W.nsIn K mainGlobals "_law_above" = some (some (.ref f27))) (l27 : K.lookup f27 = some ⟨oc27, od27, .func (PySem.W.fnOf "_law_above" "_law_above" (defArgs (topS 30)) (defBody (topS 30)) (defScope (topS 30)) .none kV27 dc27 pm27 an27 cd27 ct27), sl27⟩) (c27 : PySem.W.codeIn K cd27 "_law_above" = true) (k27 : PySem.W.keepIn K (.ref f27) = true)
    {f28 : Addr} {od28 an28 : Option Addr} {sl28 : Array (Option Value)} {oc28 kV28 dc28 pm28 cd28 ct28 : Value}
    (a28 : PySem.W.nsIn K mainGlobals "_law_balanced" = some (some (.ref f28))) (l28 : K.lookup f28 = some ⟨oc28, od28, .func (PySem.W.fnOf "_law_balanced" "_law_balanced" (defArgs (topS 31)) (defBody (topS 31)) (defScope (topS 31)) .none kV28 dc28 pm28 an28 cd28 ct28), sl28⟩) (c28 : PySem.W.codeIn K cd28 "_law_balanced" = true) (k28 : PySem.W.keepIn K (.ref f28) = true)
    {f29 : Addr} {od29 an29 : Option Addr} {sl29 : Array (Option Value)} {oc29 kV29 dc29 pm29 cd29 ct29 : Value}
    (a29 : PySem.W.nsIn K mainGlobals "_law_told" = some (some (.ref f29))) (l29 : K.lookup f29 = some ⟨oc29, od29, .func (PySem.W.fnOf "_law_told" "_law_told" (defArgs (topS 32)) (defBody (topS 32)) (defScope (topS 32)) .none kV29 dc29 pm29 an29 cd29 ct29), sl29⟩) (c29 : PySem.W.codeIn K cd29 "_law_told" = true) (k29 : PySem.W.keepIn K (.ref f29) = true)
    {f30 : Addr} {od30 an30 : Option Addr} {sl30 : Array (Option Value)} {oc30 kV30 dc30 pm30 cd30 ct30 : Value}
    (a30 : PySem.W.nsIn K mainGlobals "_law_hanging" = some (some (.ref f30))) (l30 : K.lookup f30 = some ⟨oc30, od30, .func (PySem.W.fnOf "_law_hanging" "_law_hanging" (defArgs (topS 33)) (defBody (topS 33)) (defScope (topS 33)) .none kV30 dc30 pm30 an30 cd30 ct30), sl30⟩) (c30 : PySem.W.codeIn K cd30 "_law_hanging" = true) (k30 : PySem.W.keepIn K (.ref f30) = true)
    {f31 : Addr} {od31 an31 : Option Addr} {sl31 : Array (Option Value)} {oc31 kV31 dc31 pm31 cd31 ct31 : Value}
    (a31 : PySem.W.nsIn K mainGlobals "law" = some (some (.ref f31))) (l31 : K.lookup f31 = some ⟨oc31, od31, .func (PySem.W.fnOf "law" "law" (defArgs (topS 34)) (defBody (topS 34)) (defScope (topS 34)) .none kV31 dc31 pm31 an31 cd31 ct31), sl31⟩) (c31 : PySem.W.codeIn K cd31 "law" = true) (k31 : PySem.W.keepIn K (.ref f31) = true)
    (z0 : PySem.W.nsIn K mainGlobals "len" = some none)
    (z1 : PySem.W.nsIn K mainGlobals "abs" = some none)
    (z2 : PySem.W.nsIn K mainGlobals "int" = some none)
    (z3 : PySem.W.nsIn K mainGlobals "min" = some none)
    (z4 : PySem.W.nsIn K mainGlobals "max" = some none)
    (z5 : PySem.W.nsIn K mainGlobals "sum" = some none)
    (z6 : PySem.W.nsIn K mainGlobals "sorted" = some none)
    (z7 : PySem.W.nsIn K mainGlobals "list" = some none)
    (z8 : PySem.W.nsIn K mainGlobals "tuple" = some none)
    (z9 : PySem.W.nsIn K mainGlobals "isinstance" = some none)
    (z10 : PySem.W.nsIn K mainGlobals "bool" = some none)
    (z11 : PySem.W.nsIn K mainGlobals "str" = some none)
    (z12 : PySem.W.nsIn K mainGlobals "range" = some none)
    (z13 : PySem.W.nsIn K mainGlobals "repr" = some none)
    (z14 : PySem.W.nsIn K mainGlobals "set" = some none)
    (C : CstOk K mg cst) (nk : NoKey K false) :
    ∃ fd : FuncData, (∀ (s : Shared) (v : Value), BindsTo s fd ⟨[v], []⟩ [("script", v)]) ∧ ∀ base : Heap, K.In base → base.Ns mainGlobals mg → FnG l.prog w K mg base 32 fa fd ["script"] (spF K f_law) := by
  have e := hfa.symm.trans (PySem.W.mg_of X G a31)
  cases e
  have blt : ∀ x ∈ builtinsUsed, mg x = none := builtins_none (PySem.W.mg_none_of X G z0) (PySem.W.mg_none_of X G z1) (PySem.W.mg_none_of X G z2) (PySem.W.mg_none_of X G z3) (PySem.W.mg_none_of X G z4) (PySem.W.mg_none_of X G z5) (PySem.W.mg_none_of X G z6) (PySem.W.mg_none_of X G z7) (PySem.W.mg_none_of X G z8) (PySem.W.mg_none_of X G z9) (PySem.W.mg_none_of X G z10) (PySem.W.mg_none_of X G z11) (PySem.W.mg_none_of X G z12) (PySem.W.mg_none_of X G z13) (PySem.W.mg_none_of X G z14)
  have T0 : ∀ base : Heap, TabOk l.prog w K mg base 0 t_0 := fun _ => TabOk.nil
  have F0 := fun_mk (st := topS 1) l0 c0 k0
  have B0 := F0.binds (ps := ["first", "second"]) fun _ _ _ _ _ _ us hl => match us, hl with | [_, _], _ => rfl
  have T1 : ∀ base : Heap, TabOk l.prog w K mg base 1 t_1 := fun base => TabOk.more (T0 base) C CutOk.nil nk blt (PySem.W.mg_of X G a0) F0 B0 sc_common_divisor cm_common_divisor rfl
  have F1 := fun_mk (st := topS 2) l1 c1 k1
  have B1 := F1.binds (ps := ["p", "q", "s"]) fun _ _ _ _ _ _ us hl => match us, hl with | [_, _, _], _ => rfl
  have T2 : ∀ base : Heap, TabOk l.prog w K mg base 2 t_2 := fun base => TabOk.more (T1 base) C CutOk.nil nk blt (PySem.W.mg_of X G a1) F1 B1 sc_common_of_three cm_common_of_three rfl
  have F2 := fun_mk (st := topS 3) l2 c2 k2
  have B2 := F2.binds (ps := ["p", "q", "s"]) fun _ _ _ _ _ _ us hl => match us, hl with | [_, _, _], _ => rfl
  have T3 : ∀ base : Heap, TabOk l.prog w K mg base 3 t_3 := fun base => TabOk.more (T2 base) C CutOk.nil nk blt (PySem.W.mg_of X G a2) F2 B2 sc_length cm_length rfl
  have F3 := fun_mk (st := topS 4) l3 c3 k3
  have B3 := F3.binds (ps := ["p"]) fun _ _ _ _ _ _ us hl => match us, hl with | [_], _ => rfl
  have T4 : ∀ base : Heap, TabOk l.prog w K mg base 4 t_4 := fun base => TabOk.more (T3 base) C CutOk.nil nk blt (PySem.W.mg_of X G a3) F3 B3 sc_whole cm_whole rfl
  have F4 := fun_mk (st := topS 5) l4 c4 k4
  have B4 := F4.binds (ps := ["first", "second"]) fun _ _ _ _ _ _ us hl => match us, hl with | [_, _], _ => rfl
  have T5 : ∀ base : Heap, TabOk l.prog w K mg base 5 t_5 := fun base => TabOk.more (T4 base) C CutOk.nil nk blt (PySem.W.mg_of X G a4) F4 B4 sc_plus cm_plus rfl
  have F5 := fun_mk (st := topS 6) l5 c5 k5
  have B5 := F5.binds (ps := ["number"]) fun _ _ _ _ _ _ us hl => match us, hl with | [_], _ => rfl
  have T6 : ∀ base : Heap, TabOk l.prog w K mg base 6 t_6 := fun base => TabOk.more (T5 base) C CutOk.nil nk blt (PySem.W.mg_of X G a5) F5 B5 sc_negative cm_negative rfl
  have F6 := fun_mk (st := topS 7) l6 c6 k6
  have B6 := F6.binds (ps := ["first", "second"]) fun _ _ _ _ _ _ us hl => match us, hl with | [_, _], _ => rfl
  have T7 : ∀ base : Heap, TabOk l.prog w K mg base 7 t_7 := fun base => TabOk.more (T6 base) C CutOk.nil nk blt (PySem.W.mg_of X G a6) F6 B6 sc_minus cm_minus rfl
  have F7 := fun_mk (st := topS 8) l7 c7 k7
  have B7 := F7.binds (ps := ["root", "first", "second"]) fun _ _ _ _ _ _ us hl => match us, hl with | [_, _, _], _ => rfl
  have T8 : ∀ base : Heap, TabOk l.prog w K mg base 8 t_8 := fun base => TabOk.more (T7 base) C CutOk.nil nk blt (PySem.W.mg_of X G a7) F7 B7 sc_times cm_times rfl
  have F8 := fun_mk (st := topS 9) l8 c8 k8
  have B8 := F8.binds (ps := ["root", "number"]) fun _ _ _ _ _ _ us hl => match us, hl with | [_, _], _ => rfl
  have T9 : ∀ base : Heap, TabOk l.prog w K mg base 9 t_9 := fun base => TabOk.more (T8 base) C CutOk.nil nk blt (PySem.W.mg_of X G a8) F8 B8 sc_inverse cm_inverse rfl
  have F9 := fun_mk (st := topS 10) l9 c9 k9
  have B9 := F9.binds (ps := ["root", "first", "second"]) fun _ _ _ _ _ _ us hl => match us, hl with | [_, _, _], _ => rfl
  have T10 : ∀ base : Heap, TabOk l.prog w K mg base 10 t_10 := fun base => TabOk.more (T9 base) C CutOk.nil nk blt (PySem.W.mg_of X G a9) F9 B9 sc_over cm_over rfl
  have F10 := fun_mk (st := topS 12) l10 c10 k10
  have B10 := F10.binds (ps := ["root", "count", "net", "widths_by_height"]) fun _ _ _ _ _ _ us hl => match us, hl with | [_, _, _, _], _ => rfl
  have T11 : ∀ base : Heap, TabOk l.prog w K mg base 11 t_11 := fun base => TabOk.more (T10 base) C CutOk.nil nk blt (PySem.W.mg_of X G a10) F10 B10 sc_equations_of cm_equations_of rfl
  have F11 := fun_mk (st := topS 13) l11 c11 k11
  have B11 := F11.binds (ps := ["root", "rows", "at", "column"]) fun _ _ _ _ _ _ us hl => match us, hl with | [_, _, _, _], _ => rfl
  have T12 : ∀ base : Heap, TabOk l.prog w K mg base 12 t_12 := fun base => TabOk.more (T11 base) C CutOk.nil nk blt (PySem.W.mg_of X G a11) F11 B11 sc_without_column cm_without_column rfl
  have F12 := fun_mk (st := topS 14) l12 c12 k12
  have B12 := F12.binds (ps := ["root", "rows", "count"]) fun _ _ _ _ _ _ us hl => match us, hl with | [_, _, _], _ => rfl
  have T13 : ∀ base : Heap, TabOk l.prog w K mg base 13 t_13 := fun base => TabOk.more (T12 base) C CutOk.nil nk blt (PySem.W.mg_of X G a12) F12 B12 sc_solved cm_solved rfl
  have F13 := fun_mk (st := topS 15) l13 c13 k13
  have B13 := F13.binds (ps := ["root", "count", "net", "widths_by_height", "top"]) fun _ _ _ _ _ _ us hl => match us, hl with | [_, _, _, _, _], _ => rfl
  have T14 : ∀ base : Heap, TabOk l.prog w K mg base 14 t_14 := fun base => TabOk.more (T13 base) C CutOk.nil nk blt (PySem.W.mg_of X G a13) F13 B13 sc_heights_by cm_heights_by rfl
  have F14 := fun_mk (st := topS 17) l14 c14 k14
  have B14 := F14.binds (ps := ["script", "many"]) fun _ _ _ _ _ _ us hl => match us, hl with | [_, _], _ => rfl
  have T15 : ∀ base : Heap, TabOk l.prog w K mg base 15 t_15 := fun base => TabOk.more (T14 base) C CutOk.nil nk blt (PySem.W.mg_of X G a14) F14 B14 sc__law_draws cm__law_draws rfl
  have F15 := fun_mk (st := topS 18) l15 c15 k15
  have B15 := F15.binds (ps := ["draws", "k"]) fun _ _ _ _ _ _ us hl => match us, hl with | [_, _], _ => rfl
  have T16 : ∀ base : Heap, TabOk l.prog w K mg base 16 t_16 := fun base => TabOk.more (T15 base) C CutOk.nil nk blt (PySem.W.mg_of X G a15) F15 B15 sc__law_cell cm__law_cell rfl
  have F16 := fun_mk (st := topS 19) l16 c16 k16
  have B16 := F16.binds (ps := ["value"]) fun _ _ _ _ _ _ us hl => match us, hl with | [_], _ => rfl
  have T17 : ∀ base : Heap, TabOk l.prog w K mg base 17 t_17 := fun base => TabOk.more (T16 base) C CutOk.nil nk blt (PySem.W.mg_of X G a16) F16 B16 sc__law_is_number cm__law_is_number rfl
  have F17 := fun_mk (st := topS 20) l17 c17 k17
  have B17 := F17.binds (ps := ["value"]) fun _ _ _ _ _ _ us hl => match us, hl with | [_], _ => rfl
  have T18 : ∀ base : Heap, TabOk l.prog w K mg base 18 t_18 := fun base => TabOk.more (T17 base) C CutOk.nil nk blt (PySem.W.mg_of X G a17) F17 B17 sc__law_is_numbers cm__law_is_numbers rfl
  have F18 := fun_mk (st := topS 21) l18 c18 k18
  have B18 := F18.binds (ps := ["cell"]) fun _ _ _ _ _ _ us hl => match us, hl with | [_], _ => rfl
  have T19 : ∀ base : Heap, TabOk l.prog w K mg base 19 t_19 := fun base => TabOk.more (T18 base) C CutOk.nil nk blt (PySem.W.mg_of X G a18) F18 B18 sc__law_root cm__law_root rfl
  have F19 := fun_mk (st := topS 22) l19 c19 k19
  have B19 := F19.binds (ps := ["first", "second"]) fun _ _ _ _ _ _ us hl => match us, hl with | [_, _], _ => rfl
  have T20 : ∀ base : Heap, TabOk l.prog w K mg base 20 t_20 := fun base => TabOk.more (T19 base) C CutOk.nil nk blt (PySem.W.mg_of X G a19) F19 B19 sc__law_common cm__law_common rfl
  have F20 := fun_mk (st := topS 23) l20 c20 k20
  have B20 := F20.binds (ps := ["p", "q", "s"]) fun _ _ _ _ _ _ us hl => match us, hl with | [_, _, _], _ => rfl
  have T21 : ∀ base : Heap, TabOk l.prog w K mg base 21 t_21 := fun base => TabOk.more (T20 base) C CutOk.nil nk blt (PySem.W.mg_of X G a20) F20 B20 sc__law_length cm__law_length rfl
  have F21 := fun_mk (st := topS 24) l21 c21 k21
  have B21 := F21.binds (ps := ["p"]) fun _ _ _ _ _ _ us hl => match us, hl with | [_], _ => rfl
  have T22 : ∀ base : Heap, TabOk l.prog w K mg base 22 t_22 := fun base => TabOk.more (T21 base) C CutOk.nil nk blt (PySem.W.mg_of X G a21) F21 B21 sc__law_whole cm__law_whole rfl
  have F22 := fun_mk (st := topS 25) l22 c22 k22
  have B22 := F22.binds (ps := ["first", "second"]) fun _ _ _ _ _ _ us hl => match us, hl with | [_, _], _ => rfl
  have T23 : ∀ base : Heap, TabOk l.prog w K mg base 23 t_23 := fun base => TabOk.more (T22 base) C CutOk.nil nk blt (PySem.W.mg_of X G a22) F22 B22 sc__law_plus cm__law_plus rfl
  have F23 := fun_mk (st := topS 26) l23 c23 k23
  have B23 := F23.binds (ps := ["first", "second"]) fun _ _ _ _ _ _ us hl => match us, hl with | [_, _], _ => rfl
  have T24 : ∀ base : Heap, TabOk l.prog w K mg base 24 t_24 := fun base => TabOk.more (T23 base) C CutOk.nil nk blt (PySem.W.mg_of X G a23) F23 B23 sc__law_minus cm__law_minus rfl
  have F24 := fun_mk (st := topS 27) l24 c24 k24
  have B24 := F24.binds (ps := ["root", "first", "second"]) fun _ _ _ _ _ _ us hl => match us, hl with | [_, _, _], _ => rfl
  have T25 : ∀ base : Heap, TabOk l.prog w K mg base 25 t_25 := fun base => TabOk.more (T24 base) C CutOk.nil nk blt (PySem.W.mg_of X G a24) F24 B24 sc__law_times cm__law_times rfl
  have F25 := fun_mk (st := topS 28) l25 c25 k25
  have B25 := F25.binds (ps := ["root", "number"]) fun _ _ _ _ _ _ us hl => match us, hl with | [_, _], _ => rfl
  have T26 : ∀ base : Heap, TabOk l.prog w K mg base 26 t_26 := fun base => TabOk.more (T25 base) C CutOk.nil nk blt (PySem.W.mg_of X G a25) F25 B25 sc__law_sign cm__law_sign rfl
  have F26 := fun_mk (st := topS 29) l26 c26 k26
  have B26 := F26.binds (ps := ["value"]) fun _ _ _ _ _ _ us hl => match us, hl with | [_], _ => rfl
  have T27 : ∀ base : Heap, TabOk l.prog w K mg base 27 t_27 := fun base => TabOk.more (T26 base) C CutOk.nil nk blt (PySem.W.mg_of X G a26) F26 B26 sc__law_is_length cm__law_is_length rfl
  have F27 := fun_mk (st := topS 30) l27 c27 k27
  have B27 := F27.binds (ps := ["draws", "at", "root"]) fun _ _ _ _ _ _ us hl => match us, hl with | [_, _, _], _ => rfl
  have T28 : ∀ base : Heap, TabOk l.prog w K mg base 28 t_28 := fun base => TabOk.more (T27 base) C CutOk.nil nk blt (PySem.W.mg_of X G a27) F27 B27 sc__law_above cm__law_above rfl
  have F28 := fun_mk (st := topS 31) l28 c28 k28
  have B28 := F28.binds (ps := ["root", "count", "net", "shares", "heights"]) fun _ _ _ _ _ _ us hl => match us, hl with | [_, _, _, _, _], _ => rfl
  have T29 : ∀ base : Heap, TabOk l.prog w K mg base 29 t_29 := fun base => TabOk.more (T28 base) C CutOk.nil nk blt (PySem.W.mg_of X G a28) F28 B28 sc__law_balanced cm__law_balanced rfl
  have F29 := fun_mk (st := topS 32) l29 c29 k29
  have B29 := F29.binds (ps := ["root", "count", "net", "shares", "top"]) fun _ _ _ _ _ _ us hl => match us, hl with | [_, _, _, _, _], _ => rfl
  have T30 : ∀ base : Heap, TabOk l.prog w K mg base 30 t_30 := fun base => TabOk.more (T29 base) C CutOk.nil nk blt (PySem.W.mg_of X G a29) F29 B29 sc__law_told cm__law_told rfl
  have F30 := fun_mk (st := topS 33) l30 c30 k30
  have B30 := F30.binds (ps := ["draws", "at", "count", "more"]) fun _ _ _ _ _ _ us hl => match us, hl with | [_, _, _, _], _ => rfl
  have T31 : ∀ base : Heap, TabOk l.prog w K mg base 31 t_31 := fun base => TabOk.more (T30 base) C CutOk.nil nk blt (PySem.W.mg_of X G a30) F30 B30 sc__law_hanging cm__law_hanging rfl
  have F31 := fun_mk (st := topS 34) l31 c31 k31
  exact ⟨PySem.W.fnOf "law" "law" (defArgs (topS 34)) (defBody (topS 34)) (defScope (topS 34)) .none kV31 dc31 pm31 an31 cd31 ct31, fun s v => .of_eq rfl, fun base _ _ => fn_ok F31 sc_law (T31 base) C CutOk.nil nk blt cm_law⟩
end K81
open PySem PySem.W PyProof.Rows
set_option maxHeartbeats 0 in
theorem PySem.Challenge.cw_likesheets_k81_heights_by_nets_holds : PySem.Challenge.rw_likesheets_k81_heights_by_nets.Holds := by
  w_on; o_law; k_head; (case hw => w_witness2)
  k_fill
  refine PV.walk_ofG (l := PySem.Challenge.rw_likesheets_k81_heights_by_nets) (n := 63) (k := 32) (x := "script") (sp := fun w => PV.spF _ K81.f_law) rfl (by decide) rfl ⟨rfl, by decide, by decide⟩ (fun w h Y => PySem.W.kIn_of Y) ?F (fun w H a ns hl _ hS => PV.spF_law (by kernel_rfl) hS (K81.law_true ns hl))
  case F =>
    intro w mg fa h KX G hmg
    refine' K81.all_mk KX G hmg ?a0 ?l0 ?c0 ?k0 ?a1 ?l1 ?c1 ?k1 ?a2 ?l2 ?c2 ?k2 ?a3 ?l3 ?c3 ?k3 ?a4 ?l4 ?c4 ?k4 ?a5 ?l5 ?c5 ?k5 ?a6 ?l6 ?c6 ?k6 ?a7 ?l7 ?c7 ?k7 ?a8 ?l8 ?c8 ?k8 ?a9 ?l9 ?c9 ?k9 ?a10 ?l10 ?c10 ?k10 ?a11 ?l11 ?c11 ?k11 ?a12 ?l12 ?c12 ?k12 ?a13 ?l13 ?c13 ?k13 ?a14 ?l14 ?c14 ?k14 ?a15 ?l15 ?c15 ?k15 ?a16 ?l16 ?c16 ?k16 ?a17 ?l17 ?c17 ?k17 ?a18 ?l18 ?c18 ?k18 ?a19 ?l19 ?c19 ?k19 ?a20 ?l20 ?c20 ?k20 ?a21 ?l21 ?c21 ?k21 ?a22 ?l22 ?c22 ?k22 ?a23 ?l23 ?c23 ?k23 ?a24 ?l24 ?c24 ?k24 ?a25 ?l25 ?c25 ?k25 ?a26 ?l26 ?c26 ?k26 ?a27 ?l27 ?c27 ?k27 ?a28 ?l28 ?c28 ?k28 ?a29 ?l29 ?c29 ?k29 ?a30 ?l30 ?c30 ?k30 ?a31 ?l31 ?c31 ?k31 ?z0 ?z1 ?z2 ?z3 ?z4 ?z5 ?z6 ?z7 ?z8 ?z9 ?z10 ?z11 ?z12 ?z13 ?z14 ?C ?NK
    (case a0 => k_is)
    (case l0 => k_is)
    (case c0 => k_is)
    (case k0 => k_is)
    (case a1 => k_is)
    (case l1 => k_is)
    (case c1 => k_is)
    (case k1 => k_is)
    (case a2 => k_is)
    (case l2 => k_is)
    (case c2 => k_is)
    (case k2 => k_is)
    (case a3 => k_is)
    (case l3 => k_is)
    (case c3 => k_is)
    (case k3 => k_is)
    (case a4 => k_is)
    (case l4 => k_is)
    (case c4 => k_is)
    (case k4 => k_is)
    (case a5 => k_is)
    (case l5 => k_is)
    (case c5 => k_is)
    (case k5 => k_is)
    (case a6 => k_is)
    (case l6 => k_is)
    (case c6 => k_is)
    (case k6 => k_is)
    (case a7 => k_is)
    (case l7 => k_is)
    (case c7 => k_is)
    (case k7 => k_is)
    (case a8 => k_is)
    (case l8 => k_is)
    (case c8 => k_is)
    (case k8 => k_is)
    (case a9 => k_is)
    (case l9 => k_is)
    (case c9 => k_is)
    (case k9 => k_is)
    (case a10 => k_is)
    (case l10 => k_is)
    (case c10 => k_is)
    (case k10 => k_is)
    (case a11 => k_is)
    (case l11 => k_is)
    (case c11 => k_is)
    (case k11 => k_is)
    (case a12 => k_is)
    (case l12 => k_is)
    (case c12 => k_is)
    (case k12 => k_is)
    (case a13 => k_is)
    (case l13 => k_is)
    (case c13 => k_is)
    (case k13 => k_is)
    (case a14 => k_is)
    (case l14 => k_is)
    (case c14 => k_is)
    (case k14 => k_is)
    (case a15 => k_is)
    (case l15 => k_is)
    (case c15 => k_is)
    (case k15 => k_is)
    (case a16 => k_is)
    (case l16 => k_is)
    (case c16 => k_is)
    (case k16 => k_is)
    (case a17 => k_is)
    (case l17 => k_is)
    (case c17 => k_is)
    (case k17 => k_is)
    (case a18 => k_is)
    (case l18 => k_is)
    (case c18 => k_is)
    (case k18 => k_is)
    (case a19 => k_is)
    (case l19 => k_is)
    (case c19 => k_is)
    (case k19 => k_is)
    (case a20 => k_is)
    (case l20 => k_is)
    (case c20 => k_is)
    (case k20 => k_is)
    (case a21 => k_is)
    (case l21 => k_is)
    (case c21 => k_is)
    (case k21 => k_is)
    (case a22 => k_is)
    (case l22 => k_is)
    (case c22 => k_is)
    (case k22 => k_is)
    (case a23 => k_is)
    (case l23 => k_is)
    (case c23 => k_is)
    (case k23 => k_is)
    (case a24 => k_is)
    (case l24 => k_is)
    (case c24 => k_is)
    (case k24 => k_is)
    (case a25 => k_is)
    (case l25 => k_is)
    (case c25 => k_is)
    (case k25 => k_is)
    (case a26 => k_is)
    (case l26 => k_is)
    (case c26 => k_is)
    (case k26 => k_is)
    (case a27 => k_is)
    (case l27 => k_is)
    (case c27 => k_is)
    (case k27 => k_is)
    (case a28 => k_is)
    (case l28 => k_is)
    (case c28 => k_is)
    (case k28 => k_is)
    (case a29 => k_is)
    (case l29 => k_is)
    (case c29 => k_is)
    (case k29 => k_is)
    (case a30 => k_is)
    (case l30 => k_is)
    (case c30 => k_is)
    (case k30 => k_is)
    (case a31 => k_is)
    (case l31 => k_is)
    (case c31 => k_is)
    (case k31 => k_is)
    (case z0 => k_is)
    (case z1 => k_is)
    (case z2 => k_is)
    (case z3 => k_is)
    (case z4 => k_is)
    (case z5 => k_is)
    (case z6 => k_is)
    (case z7 => k_is)
    (case z8 => k_is)
    (case z9 => k_is)
    (case z10 => k_is)
    (case z11 => k_is)
    (case z12 => k_is)
    (case z13 => k_is)
    (case z14 => k_is)
    (case NK => exact PV.NoKey.no)
    (case C => exact PV.CstOk.nil)

