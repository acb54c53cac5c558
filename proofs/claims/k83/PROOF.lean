import PyProof.Rows.All
import Wide.All
import OpenK.AllK
import Wide.FinOn
import HandS.ForMost
import HandS.Wide
import HandS.More
import KE.DataEq
import KE.DataIsa
import KE.DataMinMax
import KE.DataFind
import KE.SortData
import KE.DatumIndex
import PyProof.ReprReads
import HandS.SortInts
import HandS.Deep
import HandS.SetFor
import HandS.Strs
import PyProof.ReprRoads
import PyProof.CallFns
import HandS.Style
import HandS.Conv
import HandS.TryOnly
import PyProof.Rows.RegStrFacts
import PySem.Challenge.RW_likesheets_k83_whole_widths_add_up
set_option Elab.async false
set_option linter.all false
set_option maxRecDepth 100000
/-! PV1: the small language (E, S) and what it is worth, over plain values. -/
namespace PV
open PySem

abbrev R := Bool × PyData
abbrev Fn := List PyData → Option R
abbrev Sl := List (Option R)

inductive BOp where
  | add | sub | mul | fdiv | mod | pow | shl | shr | band | bor
inductive COp where
  | eq | ne | lt | le | gt | ge | isn | notn | inn | notin
inductive BI where
  | len | abs | int | min | max | sum | sorted | list | tuple | isInt | isBool | isList | isTuple | isStr | repr | sortedSet | index | count
/-- targets -/
inductive G where
  | nm (i : Nat)
  | two (a b : G)
  | thr (a b c : G)
  | fou (a b c d : G)
mutual
inductive E where
  | v (i : Nat) | c (d : PyData)
  | bin (o : BOp) (a b : E) | neg (a : E)
  | cmp (o : COp) (a b : E) | chain (o p : COp) (a b c : E)
  | and (a b : E) | or (a b : E) | not (a : E) | ite (c a b : E)
  | tup (es : Es) | lst (es : Es)
  | ix (a i : E) | sl (a : E) (lo hi : Oe) | rev (a : E) | rngl (es : Es)
  | call (f : Fn) (es : Es) | bi (b : BI) (es : Es)
  | comp (own : List Nat) (g : G) (it : I) (c : Oe) (elt : E)
  | comp2 (own : List Nat) (g : G) (it : I) (c : Oe) (own1 : List Nat) (g1 : G) (it1 : I) (c1 : Oe) (elt : E)
inductive Es where
  | nil | cons (e : E) (es : Es)
inductive Oe where
  | no | yes (e : E)
inductive I where
  | rng (es : Es) | seq (e : E)
end
mutual
inductive S where
  | asg (g : G) (e : E)
  | asgs (i : Nat) (e : E)
  | par (i j : Nat) (a b : E)
  | par3 (i j l : Nat) (a b d : E)
  | app (i : Nat) (e : E) | ext (i : Nat) (e : E) | ins (i : Nat) (a e : E) | put (i : Nat) (a e : E)
  | pop (g : G) (i : Nat)
  | ret (e : E) | retN
  | ite (c : E) (a b : Ss)
  | for_ (g : G) (it : I) (b : Ss)
  | while_ (c : E) (b : Ss)
  | share (i : Nat)
  | never
inductive Ss where
  | nil | cons (s : S) (ss : Ss)
end

/-! ### values -/
def LINE : Nat := 16777216
def mulOk (i j : Int) : Bool := Nat.blt (i.natAbs.log2 + j.natAbs.log2) 1000000
def divOk (j : Int) : Bool := decide (j ≠ 0) && Nat.blt j.natAbs.log2 9000
def powOk (i j : Int) : Bool := decide (0 ≤ j) && decide (j ≤ 1000000) && Nat.blt i.natAbs 18446744073709551616
def lenOk (n : Nat) : Bool := Nat.ble n LINE
/-- what may be compared: not too deep, no dict -/
def dok (d : PyData) : Bool := Nat.ble d.depth 50 && d.plain
mutual
/-- no list within -/
def nolist : PyData → Bool
  | .list _ => false
  | .dict _ => false
  | .tuple xs => nolistA xs
  | .none => true
  | .bool _ => true
  | .int _ => true
  | .str _ => true
def nolistA : List PyData → Bool
  | [] => true
  | x :: xs => nolist x && nolistA xs
end
def nolistR : R → Bool
  | (false, d) => nolist d
  | (true, .list ds) => nolistA ds
  | (true, _) => false

def evBin : BOp → PyData → PyData → Option R
  | .add, .int i, .int j => some (false, .int (i + j))
  | .add, .list a, .list b => if lenOk (a.length + b.length) then some (true, .list (a ++ b)) else none
  | .sub, .int i, .int j => some (false, .int (i - j))
  | .mul, .int i, .int j => if mulOk i j then some (false, .int (i * j)) else none
  | .mul, .list a, .int k => if decide (k < 1000000000) && decide (-1000000000 < k) && lenOk (a.length * k.toNat) then some (true, .list (List.replicate k.toNat a).flatten) else none
  | .fdiv, .int i, .int j => if divOk j then some (false, .int (i.fdiv j)) else none
  | .mod, .int i, .int j => if decide (0 < j) then some (false, .int (i % j)) else none
  | .pow, .int i, .int j => if powOk i j then some (false, .int (i ^ j.toNat)) else none
  | .shl, .int i, .int j => if powOk i j then some (false, .int (i * 2 ^ j.toNat)) else none
  | .shr, .int i, .int j => if decide (0 ≤ j) then some (false, .int (i / 2 ^ j.toNat)) else none
  | .band, .int i, .int j => some (false, .int (Builtin.bitAnd i j))
  | .bor, .int i, .int j => some (false, .int (Builtin.bitOr i j))
  | _, _, _ => none
def evNeg : PyData → Option R
  | .int i => some (false, .int (-i))
  | _ => none
def isNone : PyData → Bool
  | .none => true
  | _ => false
def evCmp : COp → PyData → PyData → Option Bool
  | .eq, .int i, .int j => some (decide (i = j))
  | .ne, .int i, .int j => some (!decide (i = j))
  | .lt, .int i, .int j => some (decide (i < j))
  | .le, .int i, .int j => some (decide (i ≤ j))
  | .gt, .int i, .int j => some (decide (j < i))
  | .ge, .int i, .int j => some (decide (j ≤ i))
  | .isn, d, .none => some (isNone d)
  | .notn, d, .none => some (!isNone d)
  | .isn, .bool a, .bool b => some (a == b)
  | .notn, .bool a, .bool b => some (a != b)
  | .isn, .none, .bool _ => some false
  | .notn, .none, .bool _ => some true
  | .eq, a, b => if dok a && dok b then some (PyData.eqv a b) else none
  | .ne, a, b => if dok a && dok b then some (!PyData.eqv a b) else none
  | .inn, a, .list bs => if dok a && dok (.list bs) then some (bs.any fun z => PyData.eqv z a) else none
  | .notin, a, .list bs => if dok a && dok (.list bs) then some (!bs.any fun z => PyData.eqv z a) else none
  | .inn, a, .tuple bs => if dok a && dok (.tuple bs) then some (bs.any fun z => PyData.eqv z a) else none
  | .notin, a, .tuple bs => if dok a && dok (.tuple bs) then some (!bs.any fun z => PyData.eqv z a) else none
  | _, _, _ => none
def evIx : PyData → PyData → Option R
  | .list ds, .int i => (L2.atI ds i).map fun d => (false, d)
  | .tuple ds, .int i => (L2.atI ds i).map fun d => (false, d)
  | _, _ => none
def cutD (xs : List PyData) (lo hi : Option Int) : List PyData := (xs.drop (HT.sIx xs.length 0 lo)).take (HT.sIx xs.length xs.length hi - HT.sIx xs.length 0 lo)
def evSl : PyData → Option Int → Option Int → Option R
  | .list ds, lo, hi => some (true, .list (cutD ds lo hi))
  | _, _, _ => none
/-- all intsOf -/
def intsOf : List PyData → Option (List Int)
  | [] => some []
  | .int i :: ds => (intsOf ds).map fun l => i :: l
  | _ :: _ => none
def minI : Int → List Int → Int
  | m, [] => m
  | m, x :: xs => minI (if x < m then x else m) xs
def maxI : Int → List Int → Int
  | m, [] => m
  | m, x :: xs => maxI (if m < x then x else m) xs
def insI (x : Int) : List Int → List Int
  | [] => [x]
  | y :: ys => if x ≤ y then x :: y :: ys else y :: insI x ys
def sortI : List Int → List Int
  | [] => []
  | x :: xs => insI x (sortI xs)
def dedupI : List Int → List Int
  | [] => []
  | x :: xs => if xs.contains x then dedupI xs else x :: dedupI xs
def idxD (x : PyData) : List PyData → Nat → Option Nat
  | [], _ => none
  | y :: ys, n => if PyData.eqv y x then some n else idxD x ys (n + 1)

/-- what may be sorted: data of one kind, none of them None, tuples that are not empty -/
def tupOk : PyData → Bool
  | .tuple (_ :: _) => true
  | _ => false
def rowOk : PyData → Bool
  | .tuple _ => false
  | .none => false
  | _ => true
def sdok (ds : List PyData) : Bool := (ds.all fun d => ds.all fun d' => W.alike d d') && (ds.all tupOk || ds.all rowOk) && Nat.ble (PyData.depthAll ds) 50
def evBI : BI → List PyData → Option R
  | .len, [.list ds] => some (false, .int ds.length)
  | .len, [.tuple ds] => some (false, .int ds.length)
  | .abs, [.int i] => some (false, .int (if i < 0 then -i else i))
  | .int, [.int i] => some (false, .int i)
  | .int, [.bool k] => some (false, .int (if k then 1 else 0))
  | .min, [.int i, .int j] => some (false, .int (if j < i then j else i))
  | .max, [.int i, .int j] => some (false, .int (if j > i then j else i))
  | .sorted, [.list ds] => match intsOf ds with
    | some l => some (true, .list ((sortI l).map .int))
    | none => if sdok ds then some (true, .list (ds.mergeSort (W.dataLe false fun d => d))) else none
  | .sortedSet, [.list ds] => (intsOf ds).bind fun l => if Nat.blt l.length 64 then some (true, .list ((sortI (dedupI l)).map .int)) else none
  | .sum, [.list ds] => (intsOf ds).map fun l => (false, .int l.sum)
  | .min, [.list ds] => (intsOf ds).bind fun l => match l with
    | [] => none
    | x :: xs => some (false, .int (minI x xs))
  | .max, [.list ds] => (intsOf ds).bind fun l => match l with
    | [] => none
    | x :: xs => some (false, .int (maxI x xs))
  | .list, [.list ds] => some (true, .list ds)
  | .list, [.tuple ds] => some (true, .list ds)
  | .tuple, [.list ds] => some (false, .tuple ds)
  | .tuple, [.tuple ds] => some (false, .tuple ds)
  | .isInt, [d] => some (false, .bool d.isInt)
  | .isBool, [d] => some (false, .bool d.isBool)
  | .isList, [d] => some (false, .bool d.isList)
  | .isTuple, [d] => some (false, .bool d.isTuple)
  | .isStr, [d] => some (false, .bool d.isStr)
  | .repr, [d] => if d.showable && !d.hasDict && Nat.ble d.depth 50 && lenOk (d.shown.length + 64) then some (false, .str d.shown) else none
  | .count, [.list ds, x] => if dok x && dok (.list ds) then some (false, .int (ds.countP fun y => PyData.eqv y x : Nat)) else none
  | .index, [.list ds, x] => if dok x && dok (.list ds) then (idxD x ds 0).map fun n => (false, .int n) else none
  | _, _ => none

/-! ### slots -/
def wipeR (ρ : Sl) : List Nat → Sl
  | [] => ρ
  | v :: vs => (wipeR ρ vs).set v none
def asg : G → PyData → Sl → Option Sl
  | .nm i, d, ρ => some (ρ.set i (some (false, d)))
  | .two a b, .tuple [x, y], ρ => (asg a x ρ).bind fun ρ1 => asg b y ρ1
  | .thr a b c, .tuple [x, y, z], ρ => (asg a x ρ).bind fun ρ1 => (asg b y ρ1).bind fun ρ2 => asg c z ρ2
  | .fou a b c d, .tuple [x, y, z, u], ρ => (asg a x ρ).bind fun ρ1 => (asg b y ρ1).bind fun ρ2 => (asg c z ρ2).bind fun ρ3 => asg d u ρ3
  | .two a b, .list [x, y], ρ => (asg a x ρ).bind fun ρ1 => asg b y ρ1
  | .thr a b c, .list [x, y, z], ρ => (asg a x ρ).bind fun ρ1 => (asg b y ρ1).bind fun ρ2 => asg c z ρ2
  | .fou a b c d, .list [x, y, z, u], ρ => (asg a x ρ).bind fun ρ1 => (asg b y ρ1).bind fun ρ2 => (asg c z ρ2).bind fun ρ3 => asg d u ρ3
  | _, _, _ => none
def asgR : G → R → Sl → Option Sl
  | .nm i, r, ρ => some (ρ.set i (some r))
  | g, r, ρ => asg g r.2 ρ
def ownedArg (ρ : Sl) : E → Bool
  | .v i => match ρ[i]? with
    | some (some (true, _)) => true
    | _ => false
  | _ => false
def ownedArgs (ρ : Sl) : Es → Bool
  | .nil => false
  | .cons e es => ownedArg ρ e || ownedArgs ρ es

def compGo (f : PyData → Option (Option PyData)) : List PyData → Option (List PyData)
  | [] => some []
  | d :: ds => match f d with
    | none => none
    | some none => compGo f ds
    | some (some y) => match compGo f ds with
      | none => none
      | some ys => some (y :: ys)
def compGo2 (f : PyData → Option (List PyData)) : List PyData → Option (List PyData)
  | [] => some []
  | d :: ds => match f d with
    | none => none
    | some xs => match compGo2 f ds with
      | none => none
      | some ys => some (xs ++ ys)
def rngI (lo : Int) (n : Nat) : List PyData := (List.range n).map fun (k : Nat) => .int (lo + (k : Int))
/-- a step other than 0 -/
def rngN (lo hi st : Int) : Nat := (Builtin.Range.rangeSize lo hi st).toNat
def rngS (lo st : Int) (n : Nat) : List PyData := (List.range n).map fun (k : Nat) => .int (lo + (k : Int) * st)
def smallI (i : Int) : Bool := decide (-1000000000 ≤ i) && decide (i ≤ 1000000000)
def evRng : List PyData → Option (List PyData)
  | [.int n] => if smallI n && lenOk n.toNat then some (rngI 0 n.toNat) else none
  | [.int a, .int b] => if smallI a && smallI b && lenOk (b - a).toNat then some (rngI a (b - a).toNat) else none
  | [.int a, .int b, .int c] => if decide (c ≠ 0) && Nat.blt c.natAbs 1073741824 && Builtin.Range.small a b c && lenOk (rngN a b c) && decide (Builtin.Range.rangeSize a b c = (rngN a b c : Int)) then some (rngS a c (rngN a b c)) else none
  | _ => none
def itemsOf : PyData → Option (List PyData)
  | .list ds => some ds
  | .tuple ds => some ds
  | _ => none

mutual
def evE : E → Bool → Sl → Option R
  | .v i, b, ρ => match ρ[i]? with
    | some (some (fl, d)) => if fl && !b then none else some (false, d)
    | _ => none
  | .c d, _, _ => some (false, d)
  | .bin o x y, _, ρ => (evE x true ρ).bind fun r => (evE y true ρ).bind fun s => evBin o r.2 s.2
  | .neg x, _, ρ => (evE x true ρ).bind fun r => evNeg r.2
  | .cmp o x y, _, ρ => (evE x true ρ).bind fun r => (evE y true ρ).bind fun s => (evCmp o r.2 s.2).map fun k => (false, .bool k)
  | .chain o p x y z, _, ρ => (evE x true ρ).bind fun r => (evE y true ρ).bind fun s => (evCmp o r.2 s.2).bind fun k => match k with
    | false => some (false, .bool false)
    | true => (evE z true ρ).bind fun t => (evCmp p s.2 t.2).map fun k => (false, .bool k)
  | .and x y, b, ρ => (evE x true ρ).bind fun r => match r.2 with
    | .bool true => evE y b ρ
    | .bool false => some (false, .bool false)
    | _ => none
  | .or x y, b, ρ => (evE x true ρ).bind fun r => match r.2 with
    | .bool false => evE y b ρ
    | .bool true => some (false, .bool true)
    | _ => none
  | .not x, _, ρ => (evE x true ρ).bind fun r => match r.2 with
    | .bool k => some (false, .bool (!k))
    | _ => none
  | .ite c x y, b, ρ => (evE c true ρ).bind fun r => match r.2 with
    | .bool true => evE x b ρ
    | .bool false => evE y b ρ
    | _ => none
  | .tup es, _, ρ => (evEs es false ρ).bind fun ds => if lenOk ds.length then some (false, .tuple ds) else none
  | .lst es, _, ρ => (evEs es false ρ).bind fun ds => if lenOk ds.length then some (true, .list ds) else none
  | .ix x i, _, ρ => (evE x true ρ).bind fun r => (evE i true ρ).bind fun s => evIx r.2 s.2
  | .sl x lo hi, _, ρ => (evE x true ρ).bind fun r => (evP lo ρ).bind fun l => (evP hi ρ).bind fun h => evSl r.2 l h
  | .rev x, _, ρ => (evE x true ρ).bind fun r => match r.2 with
    | .list ds => some (true, .list ds.reverse)
    | .tuple ds => some (false, .tuple ds.reverse)
    | _ => none
  | .rngl es, _, ρ => (evEs es true ρ).bind fun ds => (evRng ds).map fun l => (true, .list l)
  | .call f es, _, ρ => if ownedArgs ρ es then (evEs es true ρ).bind fun ds => (f ds).bind fun r => if nolistR r then some r else none else (evEs es false ρ).bind f
  | .bi b es, _, ρ => (evEs es true ρ).bind fun ds => evBI b ds
  | .comp own g it c elt, _, ρ => (evI it true ρ).bind fun ds => (compGo (fun d => (asg g d (wipeR ρ own)).bind fun ρ2 => (evC c ρ2).bind fun k => match k with
      | false => some none
      | true => (evE elt false ρ2).map fun r => some r.2) ds).map fun ys => (true, .list ys)
  | .comp2 own g it c own1 g1 it1 c1 elt, _, ρ => (evI it true ρ).bind fun ds => (compGo2 (fun d => (asg g d (wipeR ρ own)).bind fun ρ2 => (evC c ρ2).bind fun k => match k with
      | false => some []
      | true => (evI it1 true ρ2).bind fun ds1 => compGo (fun d1 => (asg g1 d1 (wipeR ρ2 own1)).bind fun ρ3 => (evC c1 ρ3).bind fun k => match k with
        | false => some none
        | true => (evE elt false ρ3).map fun r => some r.2) ds1) ds).bind fun ys => if lenOk ys.length then some (true, .list ys) else none
def evEs : Es → Bool → Sl → Option (List PyData)
  | .nil, _, _ => some []
  | .cons e es, b, ρ => (evE e b ρ).bind fun r => (evEs es b ρ).map fun ds => r.2 :: ds
/-- a bound of a slice -/
def evP : Oe → Sl → Option (Option Int)
  | .no, _ => some none
  | .yes e, ρ => (evE e true ρ).bind fun r => match r.2 with
    | .int i => some (some i)
    | _ => none
/-- a comprehension's test -/
def evC : Oe → Sl → Option Bool
  | .no, _ => some true
  | .yes e, ρ => (evE e true ρ).bind fun r => match r.2 with
    | .bool k => some k
    | _ => none
def evI : I → Bool → Sl → Option (List PyData)
  | .rng es, _, ρ => (evEs es true ρ).bind evRng
  | .seq e, b, ρ => (evE e b ρ).bind fun r => itemsOf r.2
end
/-- a test -/
def evT (e : E) (ρ : Sl) : Option Bool := (evE e true ρ).bind fun r => match r.2 with
  | .bool k => some k
  | _ => none
/-- what is returned: an owned list moves -/
def evRet : E → Sl → Option R
  | .v i, ρ => match ρ[i]? with
    | some (some r) => some r
    | _ => none
  | e, ρ => evE e false ρ

/-! ### statements -/
inductive Out where
  | nx (ρ : Sl) | rt (r : R) | bk (ρ : Sl) | ct (ρ : Sl)
def forGo (g : G) (f : Sl → Option Out) : List PyData → Sl → Option Out
  | [], ρ => some (.nx ρ)
  | d :: ds, ρ => match asg g d ρ with
    | none => none
    | some ρ1 => match f ρ1 with
      | some (.nx ρ2) => forGo g f ds ρ2
      | some (.ct ρ2) => forGo g f ds ρ2
      | some (.bk ρ2) => some (.nx ρ2)
      | some (.rt r) => some (.rt r)
      | none => none
def whileGo (c : Sl → Option Bool) (f : Sl → Option Out) : Nat → Sl → Option Out
  | 0, _ => none
  | n + 1, ρ => match c ρ with
    | none => none
    | some false => some (.nx ρ)
    | some true => match f ρ with
      | some (.nx ρ2) => whileGo c f n ρ2
      | some (.ct ρ2) => whileGo c f n ρ2
      | some (.bk ρ2) => some (.nx ρ2)
      | some (.rt r) => some (.rt r)
      | none => none
/-- an owned list in slot i -/
def own (ρ : Sl) (i : Nat) : Option (List PyData) := match ρ[i]? with
  | some (some (true, .list ds)) => some ds
  | _ => none
def putD : List PyData → Int → PyData → Option (List PyData)
  | ds, i, d => (L2.ixN ds.length i).map fun j => ds.set j d
mutual
def evS (n : Nat) : S → Sl → Option Out
  | .asg g e, ρ => (evE e false ρ).bind fun r => (asgR g r ρ).map .nx
  | .asgs i e, ρ => (evE e false ρ).map fun r => .nx (ρ.set i (some (false, r.2)))
  | .par i j a b, ρ => (evE a false ρ).bind fun r => (evE b false ρ).map fun s => .nx ((ρ.set i (some r)).set j (some s))
  | .par3 i j l a b d, ρ => (evE a false ρ).bind fun r => (evE b false ρ).bind fun s => (evE d false ρ).map fun t => .nx (((ρ.set i (some r)).set j (some s)).set l (some t))
  | .app i e, ρ => (own ρ i).bind fun ds => (evE e false ρ).bind fun r => if lenOk (ds.length + 1) then some (.nx (ρ.set i (some (true, .list (ds ++ [r.2]))))) else none
  | .ext i e, ρ => (own ρ i).bind fun ds => (evE e false ρ).bind fun r => match r.2 with
    | .list es => if lenOk (ds.length + es.length) then some (.nx (ρ.set i (some (true, .list (ds ++ es))))) else none
    | .tuple es => if lenOk (ds.length + es.length) then some (.nx (ρ.set i (some (true, .list (ds ++ es))))) else none
    | _ => none
  | .ins i a e, ρ => (own ρ i).bind fun ds => (evE a true ρ).bind fun k => (evE e false ρ).bind fun r => match k.2 with
    | .int j => if decide (0 ≤ j) && decide (j < 1000000000) && lenOk (ds.length + 1) then some (.nx (ρ.set i (some (true, .list (ds.take j.toNat ++ [r.2] ++ ds.drop j.toNat))))) else none
    | _ => none
  | .put i a e, ρ => (evE e false ρ).bind fun r => (own ρ i).bind fun ds => (evE a true ρ).bind fun k => match k.2 with
    | .int j => (putD ds j r.2).map fun ds' => .nx (ρ.set i (some (true, .list ds')))
    | _ => none
  | .pop g i, ρ => (own ρ i).bind fun ds => match ds.getLast? with
    | none => none
    | some d => (asg g d (ρ.set i (some (true, .list ds.dropLast)))).map .nx
  | .ret e, ρ => (evRet e ρ).map .rt
  | .retN, _ => some (.rt (false, .none))
  | .ite c a b, ρ => (evT c ρ).bind fun k => match k with
    | true => evSs n a ρ
    | false => evSs n b ρ
  | .for_ g it b, ρ => (evI it false ρ).bind fun ds => forGo g (fun ρ => evSs n b ρ) ds ρ
  | .while_ c b, ρ => whileGo (fun ρ => evT c ρ) (fun ρ => evSs n b ρ) n ρ
  | .share i, ρ => match ρ[i]? with
    | some (some (true, d)) => some (.nx (ρ.set i (some (false, d))))
    | _ => some (.nx ρ)
  | .never, _ => none
def evSs (n : Nat) : Ss → Sl → Option Out
  | .nil, ρ => some (.nx ρ)
  | .cons s ss, ρ => match evS n s ρ with
    | some (.nx ρ2) => evSs n ss ρ2
    | o => o
end
def startR (n : Nat) (ds : List PyData) : Sl := ds.map (fun d => some (false, d)) ++ List.replicate (n - ds.length) none
/-- a def: n turns for each while, np parameters, nl names -/
def evDef (n np nl : Nat) (body : Ss) : Fn := fun ds => if ds.length = np then match evSs n body (startR nl ds) with
  | some (.rt r) => some r
  | some (.nx _) => some (false, .none)
  | _ => none
  else none
end PV

set_option Elab.async false
set_option linter.all false
set_option maxRecDepth 100000
/-! PV2: how values lie in the heap (Rp), owned slots (Ok). -/
namespace PV
open PySem PySem.Spec PyProof.Rows L2

/-- a tuple of the written part -/
def Kt (K : PySem.W.Frag) (a : Addr) (xs : List V) : Prop :=
  ∃ (o : Obj) (its : Array Value) (n : Nat), K.lookup a = some o ∧ o.cls = .type "tuple" ∧ o.data = .seq its n ∧ its.size ≤ sizeLine ∧ Vals xs its.toList
mutual
/-- v stands for d; no list or tuple of it lies at an address of O -/
inductive Rp (K : PySem.W.Frag) (H : Hp) (O : Addr → Prop) : V → PyData → Prop
  | non : Rp K H O .non .none
  | bl (b : Bool) : Rp K H O (.bl b) (.bool b)
  | int (i : Int) : Rp K H O (.int i) (.int i)
  | str (x : Str) : Rp K H O (.str x) (.str x)
  | lst {a : Addr} {xs : List V} {ds : List PyData} : Rd H a (.lst xs) → ¬ O a → RpA K H O xs ds → Rp K H O (.ref a) (.list ds)
  | tup {a : Addr} {xs : List V} {ds : List PyData} : ((Rd H a (.tup xs) ∧ ¬ O a) ∨ Kt K a xs) → RpA K H O xs ds → Rp K H O (.ref a) (.tuple ds)
inductive RpA (K : PySem.W.Frag) (H : Hp) (O : Addr → Prop) : List V → List PyData → Prop
  | nil : RpA K H O [] []
  | cons {v : V} {vs : List V} {d : PyData} {ds : List PyData} : Rp K H O v d → RpA K H O vs ds → RpA K H O (v :: vs) (d :: ds)
end
section
variable {K : PySem.W.Frag} {H H' : Hp} {O O' : Addr → Prop}
theorem rd_keep {a : Addr} {u : HO} (h : Rd H a u) (k : ∀ a o, H a = some o → ¬ O a → H' a = some o) (n : ¬ O a) : Rd H' a u := by
  rcases h with h | ⟨o, h⟩
  · exact .inl (k _ _ h n)
  · exact .inr ⟨o, k _ _ h n⟩
theorem rd_some {a : Addr} {u : HO} (h : Rd H a u) : H a ≠ Option.none := by
  rcases h with h | ⟨o, h⟩ <;> rw [h] <;> exact fun z => nomatch z
mutual
theorem Rp.keep (k : ∀ a o, H a = some o → ¬ O a → H' a = some o) (hO : ∀ a, O' a → O a ∨ H a = none) : ∀ (d : PyData) (v : V), Rp K H O v d → Rp K H' O' v d
  | .none, _, h => by cases h; exact .non
  | .bool b, _, h => by cases h; exact .bl b
  | .int i, _, h => by cases h; exact .int i
  | .str x, _, h => by cases h; exact .str x
  | .list ds, _, h => by
    cases h with
    | lst h1 h2 h3 => exact .lst (rd_keep h1 k h2) (fun z => (hO _ z).elim h2 (rd_some h1)) (RpA.keep k hO ds _ h3)
  | .tuple ds, _, h => by
    cases h with
    | tup h1 h3 =>
      refine .tup ?_ (RpA.keep k hO ds _ h3)
      rcases h1 with ⟨h1, h2⟩ | h1
      · exact .inl ⟨rd_keep h1 k h2, fun z => (hO _ z).elim h2 (rd_some h1)⟩
      · exact .inr h1
  | .dict _, _, h => by cases h
theorem RpA.keep (k : ∀ a o, H a = some o → ¬ O a → H' a = some o) (hO : ∀ a, O' a → O a ∨ H a = none) : ∀ (ds : List PyData) (vs : List V), RpA K H O vs ds → RpA K H' O' vs ds
  | [], _, h => by cases h; exact .nil
  | d :: ds, _, h => by
    cases h with
    | cons h1 h2 => exact .cons (Rp.keep k hO d _ h1) (RpA.keep k hO ds _ h2)
end
/-- all kept -/
theorem Rp.same {v : V} {d : PyData} (s : Same H H') (h : Rp K H O v d) : Rp K H' O v d := Rp.keep (fun a o e _ => s a o e) (fun _ z => .inl z) d v h
theorem RpA.same {vs : List V} {ds : List PyData} (s : Same H H') (h : RpA K H O vs ds) : RpA K H' O vs ds := RpA.keep (fun a o e _ => s a o e) (fun _ z => .inl z) ds vs h
/-- fewer owned ones -/
theorem Rp.less {v : V} {d : PyData} (h : Rp K H O v d) (hO : ∀ a, O' a → O a) : Rp K H O' v d := Rp.keep (fun _ _ e _ => e) (fun a z => .inl (hO a z)) d v h
theorem RpA.less {vs : List V} {ds : List PyData} (h : RpA K H O vs ds) (hO : ∀ a, O' a → O a) : RpA K H O' vs ds := RpA.keep (fun _ _ e _ => e) (fun a z => .inl (hO a z)) ds vs h
theorem RpA.length : ∀ {vs : List V} {ds : List PyData}, RpA K H O vs ds → vs.length = ds.length
  | _, _, .nil => rfl
  | _, _, .cons _ h => by simp [RpA.length h]
theorem RpA.get : ∀ {vs : List V} {ds : List PyData} {i : Nat} {d : PyData}, RpA K H O vs ds → ds[i]? = some d → ∃ v, vs[i]? = some v ∧ Rp K H O v d
  | _, _, _, _, .nil, e => by simp at e
  | _, _, 0, _, .cons h _, e => by simp at e; subst e; exact ⟨_, rfl, h⟩
  | _, _, i + 1, _, .cons _ h, e => by simpa using RpA.get h (by simpa using e)
theorem RpA.getV : ∀ {vs : List V} {ds : List PyData} {i : Nat} {v : V}, RpA K H O vs ds → vs[i]? = some v → ∃ d, ds[i]? = some d ∧ Rp K H O v d
  | _, _, _, _, .nil, e => by simp at e
  | _, _, 0, _, .cons h _, e => by simp at e; subst e; exact ⟨_, rfl, h⟩
  | _, _, i + 1, _, .cons _ h, e => by simpa using RpA.getV h (by simpa using e)
theorem RpA.append : ∀ {xs ys : List V} {ds es : List PyData}, RpA K H O xs ds → RpA K H O ys es → RpA K H O (xs ++ ys) (ds ++ es)
  | _, _, _, _, .nil, h => h
  | _, _, _, _, .cons h t, h' => .cons h (RpA.append t h')
theorem RpA.one {v : V} {d : PyData} (h : Rp K H O v d) : RpA K H O [v] [d] := .cons h .nil
theorem RpA.take : ∀ {xs : List V} {ds : List PyData} (n : Nat), RpA K H O xs ds → RpA K H O (xs.take n) (ds.take n)
  | _, _, 0, _ => .nil
  | _, _, _ + 1, .nil => .nil
  | _, _, n + 1, .cons h t => .cons h (RpA.take n t)
theorem RpA.drop : ∀ {xs : List V} {ds : List PyData} (n : Nat), RpA K H O xs ds → RpA K H O (xs.drop n) (ds.drop n)
  | _, _, 0, h => h
  | _, _, _ + 1, .nil => .nil
  | _, _, n + 1, .cons _ t => RpA.drop n t
theorem RpA.set {v : V} {d : PyData} (h : Rp K H O v d) : ∀ {xs : List V} {ds : List PyData} (i : Nat), RpA K H O xs ds → RpA K H O (xs.set i v) (ds.set i d)
  | _, _, _, .nil => .nil
  | _, _, 0, .cons _ t => .cons h t
  | _, _, i + 1, .cons q t => .cons q (RpA.set h i t)
theorem RpA.reverse {xs : List V} {ds : List PyData} (h : RpA K H O xs ds) : RpA K H O xs.reverse ds.reverse := by
  have go : ∀ {xs : List V} {ds : List PyData}, RpA K H O xs ds → RpA K H O xs.reverse ds.reverse := by
    intro xs
    induction xs with
    | nil => intro ds h; cases h; exact .nil
    | cons x xs ih =>
      intro ds h
      cases h with
      | cons h t =>
        rw [List.reverse_cons, List.reverse_cons]
        exact RpA.append (ih t) (.one h)
  exact go h
theorem RpA.dropLast {xs : List V} {ds : List PyData} (h : RpA K H O xs ds) : RpA K H O xs.dropLast ds.dropLast := by
  rw [List.dropLast_eq_take, List.dropLast_eq_take, h.length]
  exact h.take _
theorem RpA.rep {xs : List V} {ds : List PyData} (h : RpA K H O xs ds) : ∀ k : Nat, RpA K H O (List.replicate k xs).flatten (List.replicate k ds).flatten
  | 0 => .nil
  | k + 1 => by
    rw [List.replicate_succ, List.replicate_succ, List.flatten_cons, List.flatten_cons]
    exact h.append (RpA.rep h k)
theorem RpA.each {xs : List V} {ds : List PyData} (hl : xs.length = ds.length) (h : ∀ (i : Nat) v d, xs[i]? = some v → ds[i]? = some d → Rp K H O v d) : RpA K H O xs ds := by
  induction xs generalizing ds with
  | nil =>
    cases ds with
    | nil => exact .nil
    | cons d ds => simp at hl
  | cons x xs ih =>
    cases ds with
    | nil => simp at hl
    | cons d ds => exact .cons (h 0 x d rfl rfl) (ih (by simpa using hl) fun i v d e1 e2 => h (i + 1) v d (by simpa using e1) (by simpa using e2))
theorem Kt.sq {a : Addr} {xs : List V} (h : Kt K a xs) : SqT K H a xs := .inr h
mutual
theorem Rp.dp : ∀ (d : PyData) (v : V), Rp K H O v d → Dp K H v d
  | .none, _, h => by cases h; exact .non
  | .bool b, _, h => by cases h; exact .bl b
  | .int i, _, h => by cases h; exact .int i
  | .str x, _, h => by cases h; exact .str x
  | .list ds, _, h => by
    cases h with
    | lst h1 h2 h3 => exact .lst (.inl h1) (RpA.dp ds _ h3)
  | .tuple ds, _, h => by
    cases h with
    | tup h1 h3 =>
      refine .tup ?_ (RpA.dp ds _ h3)
      rcases h1 with ⟨h1, h2⟩ | h1
      · exact .inl h1
      · exact .inr h1
  | .dict _, _, h => by cases h
theorem RpA.dp : ∀ (ds : List PyData) (vs : List V), RpA K H O vs ds → DpAll K H vs ds
  | [], _, h => by cases h; exact .nil
  | d :: ds, _, h => by
    cases h with
    | cons h1 h2 => exact .cons (Rp.dp d _ h1) (RpA.dp ds _ h2)
end
theorem rpA_ints {ns : List Int} : RpA K H O (ns.map V.int) (ns.map PyData.int) := by
  induction ns with
  | nil => exact .nil
  | cons n ns ih => exact .cons (.int n) ih
theorem intsOf_eq : ∀ {ds : List PyData} {ns : List Int}, intsOf ds = some ns → ds = ns.map PyData.int
  | [], ns, h => by cases h; rfl
  | .int i :: ds, ns, h => by
    cases e : intsOf ds with
    | none => simp [intsOf, e] at h
    | some l =>
      simp [intsOf, e] at h
      subst h
      rw [intsOf_eq e]
      rfl
  | .none :: _, _, h => by simp [intsOf] at h
  | .bool _ :: _, _, h => by simp [intsOf] at h
  | .str _ :: _, _, h => by simp [intsOf] at h
  | .list _ :: _, _, h => by simp [intsOf] at h
  | .tuple _ :: _, _, h => by simp [intsOf] at h
  | .dict _ :: _, _, h => by simp [intsOf] at h
theorem rpA_int_inv : ∀ {ns : List Int} {vs : List V}, RpA K H O vs (ns.map PyData.int) → vs = ns.map V.int
  | [], _, h => by cases h; rfl
  | n :: ns, _, h => by
    cases h with
    | cons h t => cases h; rw [rpA_int_inv t]; rfl
end

section
variable {K : PySem.W.Frag} {H : Hp} {P P' : Addr → Prop}
theorem rd_tup {a : Addr} {xs : List V} (h : Rd H a (.tup xs)) (hP : ∀ a, P' a → ∃ xs, H a = some (.lst xs)) : ¬ P' a := fun z => by
  obtain ⟨ys, q⟩ := hP a z
  rcases h with h | ⟨o, h⟩ <;> (rw [q] at h; cases h)
mutual
/-- where no list lies within, all lists may be owned -/
theorem Rp.nolist (hP : ∀ a, P' a → ∃ xs, H a = some (.lst xs)) : ∀ (d : PyData) (v : V), PV.nolist d = true → Rp K H P v d → Rp K H P' v d
  | .none, _, _, h => by cases h; exact .non
  | .bool b, _, _, h => by cases h; exact .bl b
  | .int i, _, _, h => by cases h; exact .int i
  | .str x, _, _, h => by cases h; exact .str x
  | .list ds, _, n, h => by cases n
  | .tuple ds, _, n, h => by
    cases h with
    | tup h1 h3 =>
      refine .tup ?_ (RpA.nolist hP ds _ (by simpa [PV.nolist] using n) h3)
      rcases h1 with ⟨h1, h2⟩ | h1
      · exact .inl ⟨h1, rd_tup h1 hP⟩
      · exact .inr h1
  | .dict _, _, _, h => by cases h
theorem RpA.nolist (hP : ∀ a, P' a → ∃ xs, H a = some (.lst xs)) : ∀ (ds : List PyData) (vs : List V), nolistA ds = true → RpA K H P vs ds → RpA K H P' vs ds
  | [], _, _, h => by cases h; exact .nil
  | d :: ds, _, n, h => by
    have n' : PV.nolist d = true ∧ nolistA ds = true := by simpa [nolistA] using n
    cases h with
    | cons h1 h2 => exact .cons (Rp.nolist hP d _ n'.1 h1) (RpA.nolist hP ds _ n'.2 h2)
end
end

/-- as Rp, or an owned list's items -/
def RpB (K : PySem.W.Frag) (H : Hp) (P : Addr → Prop) (v : V) (d : PyData) : Prop :=
  Rp K H P v d ∨ ∃ a xs ds, v = .ref a ∧ d = .list ds ∧ H a = some (.lst xs) ∧ RpA K H P xs ds
/-- an expression's value: new lists are told -/
def RpR (K : PySem.W.Frag) (H0 H : Hp) (P : Addr → Prop) (b : Bool) (v : V) : R → Prop
  | (true, d) => ∃ a xs ds, v = .ref a ∧ d = .list ds ∧ H a = some (.lst xs) ∧ H0 a = none ∧ RpA K H (fun x => P x ∨ x = a) xs ds
  | (false, d) => if b then RpB K H P v d else Rp K H P v d
/-- what a slot holds -/
def RpS (K : PySem.W.Frag) (H : Hp) (P : Addr → Prop) (ai : Option Addr) (v : V) : R → Prop
  | (false, d) => Rp K H P v d
  | (true, d) => ∃ a xs ds, ai = some a ∧ v = .ref a ∧ d = .list ds ∧ H a = some (.lst xs) ∧ RpA K H P xs ds
/-- the owned addresses -/
def Ow (O : Addr → Prop) (A : Nat → Option Addr) : Addr → Prop := fun a => O a ∨ ∃ i, A i = some a
structure Ok (K : PySem.W.Frag) (O : Addr → Prop) (H0 : Hp) (A : Nat → Option Addr) (H : Hp) (σ : L2.St) (ρ : Sl) : Prop where
  len : σ.length = ρ.length
  grow : Same H0 H
  inj : ∀ i j a, A i = some a → A j = some a → i = j
  new : ∀ i a, A i = some a → H0 a = none
  dom : ∀ i a, A i = some a → ∃ xs, H a = some (.lst xs)
  odom : ∀ a, O a → ∃ xs, H0 a = some (.lst xs)
  val : ∀ i r, ρ[i]? = some (some r) → ∃ v, σ[i]? = some (some v) ∧ RpS K H (Ow O A) (A i) v r
section
variable {K : PySem.W.Frag} {O : Addr → Prop} {H0 H H' : Hp} {A : Nat → Option Addr} {σ : L2.St} {ρ : Sl}
theorem RpB.same {P : Addr → Prop} {v : V} {d : PyData} (s : Same H H') (h : RpB K H P v d) : RpB K H' P v d := by
  rcases h with h | ⟨a, xs, ds, e1, e2, e3, h⟩
  · exact .inl (h.same s)
  · exact .inr ⟨a, xs, ds, e1, e2, s _ _ e3, h.same s⟩
theorem RpB.dp {P : Addr → Prop} {v : V} {d : PyData} (h : RpB K H P v d) : Dp K H v d := by
  rcases h with h | ⟨a, xs, ds, e1, e2, e3, h⟩
  · exact Rp.dp _ _ h
  · subst e1 e2
    exact .lst (.inl (.inl e3)) (RpA.dp _ _ h)
theorem RpB.list {P : Addr → Prop} {v : V} {ds : List PyData} (h : RpB K H P v (.list ds)) : ∃ a xs, v = .ref a ∧ Rd H a (.lst xs) ∧ RpA K H P xs ds := by
  rcases h with h | ⟨a, xs, ds', e1, e2, e3, h⟩
  · cases h with
    | lst h1 h2 h3 => exact ⟨_, _, rfl, h1, h3⟩
  · cases e2
    exact ⟨a, xs, e1, .inl e3, h⟩
theorem RpB.tuple {P : Addr → Prop} {v : V} {ds : List PyData} (h : RpB K H P v (.tuple ds)) : ∃ a xs, v = .ref a ∧ SqT K H a xs ∧ RpA K H P xs ds := by
  rcases h with h | ⟨a, xs, ds', e1, e2, e3, h⟩
  · cases h with
    | tup h1 h3 =>
      rcases h1 with ⟨h1, _⟩ | h1
      · exact ⟨_, _, rfl, .inl h1, h3⟩
      · exact ⟨_, _, rfl, .inr h1, h3⟩
  · cases e2
theorem RpB.int {P : Addr → Prop} {v : V} {i : Int} (h : RpB K H P v (.int i)) : v = .int i := by
  rcases h with h | ⟨a, xs, ds', e1, e2, e3, h⟩
  · cases h; rfl
  · cases e2
theorem RpB.bool {P : Addr → Prop} {v : V} {k : Bool} (h : RpB K H P v (.bool k)) : v = .bl k := by
  rcases h with h | ⟨a, xs, ds', e1, e2, e3, h⟩
  · cases h; rfl
  · cases e2
theorem RpB.none {P : Addr → Prop} {v : V} (h : RpB K H P v .none) : v = .non := by
  rcases h with h | ⟨a, xs, ds', e1, e2, e3, h⟩
  · cases h; rfl
  · cases e2
theorem RpB.notnone {P : Addr → Prop} {v : V} {d : PyData} (h : RpB K H P v d) : decide (v = .non) = isNone d := by
  rcases h with h | ⟨a, xs, ds', e1, e2, e3, h⟩
  · cases h <;> rfl
  · subst e1 e2; rfl
/-- new lists become shared -/
theorem Ok.down (ok : Ok K O H0 A H σ ρ) (s : Same H H') {v : V} {r : R} (h : RpR K H H' (Ow O A) false v r) : Rp K H' (Ow O A) v r.2 := by
  obtain ⟨fl, d⟩ := r
  cases fl with
  | false => exact h
  | true =>
    obtain ⟨a, xs, ds, rfl, e2, e3, e4, h⟩ := h
    have e2 : d = .list ds := e2
    subst e2
    refine .lst (.inl e3) (fun z => ?_) (h.less fun x z => .inl z)
    rcases z with z | ⟨i, z⟩
    · obtain ⟨ys, q⟩ := ok.odom a z
      rw [ok.grow a _ q] at e4; cases e4
    · obtain ⟨xs, q⟩ := ok.dom i a z
      rw [q] at e4; cases e4
theorem Ok.downB (ok : Ok K O H0 A H σ ρ) (s : Same H H') {v : V} {r : R} (h : RpR K H H' (Ow O A) true v r) : RpB K H' (Ow O A) v r.2 := by
  obtain ⟨fl, d⟩ := r
  cases fl with
  | false => exact h
  | true =>
    obtain ⟨a, xs, ds, e1, e2, e3, e4, h⟩ := h
    exact .inr ⟨a, xs, ds, e1, e2, e3, h.less fun x z => .inl z⟩
theorem RpS.same {P : Addr → Prop} {ai : Option Addr} {v : V} {r : R} (s : Same H H') (h : RpS K H P ai v r) : RpS K H' P ai v r := by
  obtain ⟨fl, d⟩ := r
  cases fl with
  | false => exact Rp.same s h
  | true =>
    obtain ⟨a, xs, ds, e1, e2, e3, e4, h⟩ := h
    exact ⟨a, xs, ds, e1, e2, e3, s _ _ e4, h.same s⟩
theorem Ok.same (ok : Ok K O H0 A H σ ρ) (s : Same H H') : Ok K O H0 A H' σ ρ where
  len := ok.len
  grow := ok.grow.trans s
  inj := ok.inj
  new := ok.new
  dom := fun i a e => let ⟨xs, q⟩ := ok.dom i a e; ⟨xs, s _ _ q⟩
  odom := ok.odom
  val := fun i r e => let ⟨v, e1, h⟩ := ok.val i r e; ⟨v, e1, h.same s⟩
/-- what is owned is there -/
theorem Ok.own_some (ok : Ok K O H0 A H σ ρ) {a : Addr} (h : Ow O A a) : H a ≠ none := by
  rcases h with z | ⟨i, z⟩
  · obtain ⟨xs, q⟩ := ok.odom a z
    rw [ok.grow a _ q]; exact fun z => nomatch z
  · obtain ⟨xs, q⟩ := ok.dom i a z
    rw [q]; exact fun z => nomatch z
theorem Ok.own_lst (ok : Ok K O H0 A H σ ρ) {a : Addr} (h : Ow O A a) : ∃ xs, H a = some (.lst xs) := by
  rcases h with z | ⟨i, z⟩
  · obtain ⟨xs, q⟩ := ok.odom a z
    exact ⟨xs, ok.grow a _ q⟩
  · exact ok.dom i a z
theorem Ok.fresh (ok : Ok K O H0 A H σ ρ) {a : Addr} (h : H a = none) : ¬ Ow O A a := fun z => ok.own_some z h
/-- a shared value goes into a slot -/
theorem Ok.set (ok : Ok K O H0 A H σ ρ) {i : Nat} {v : V} {d : PyData} (h : Rp K H (Ow O A) v d) : Ok K O H0 A H (σ.set i (some v)) (ρ.set i (some (false, d))) where
  len := by rw [List.length_set, List.length_set, ok.len]
  grow := ok.grow
  inj := ok.inj
  new := ok.new
  dom := ok.dom
  odom := ok.odom
  val := fun j r e => by
    by_cases hj : i = j
    · subst hj
      by_cases hl : i < ρ.length
      · rw [List.getElem?_set_self hl] at e
        cases e
        exact ⟨v, by rw [List.getElem?_set_self (by rw [ok.len]; exact hl)], h⟩
      · rw [List.getElem?_eq_none (by simpa using hl)] at e; cases e
    · rw [List.getElem?_set_ne hj] at e
      obtain ⟨v', e1, h'⟩ := ok.val j r e
      exact ⟨v', by rw [List.getElem?_set_ne hj]; exact e1, h'⟩
/-- slots forgotten -/
theorem Ok.wipe (ok : Ok K O H0 A H σ ρ) (vs : List Nat) : Ok K O H0 A H (wipe σ vs) (wipeR ρ vs) := by
  have ex : ∀ vs : List Nat, (wipeR ρ vs).length = ρ.length ∧ ∀ (i : Nat) r, (wipeR ρ vs)[i]? = some (some r) → ρ[i]? = some (some r) ∧ i ∉ vs := by
    intro vs
    induction vs with
    | nil => exact ⟨rfl, fun i r e => ⟨e, by simp⟩⟩
    | cons v vs ih =>
      refine ⟨by show ((wipeR ρ vs).set v none).length = _; rw [List.length_set]; exact ih.1, fun i r e => ?_⟩
      have e : ((wipeR ρ vs).set v none)[i]? = some (some r) := e
      by_cases hi : v = i
      · subst hi
        by_cases hl : v < (wipeR ρ vs).length
        · rw [List.getElem?_set_self hl] at e; cases e
        · rw [List.getElem?_eq_none (by simpa using hl)] at e; cases e
      · rw [List.getElem?_set_ne hi] at e
        obtain ⟨h1, h2⟩ := ih.2 i r e
        exact ⟨h1, by simp only [List.mem_cons, not_or]; exact ⟨fun z => hi z.symm, h2⟩⟩
  refine ⟨by rw [wipe_length, (ex vs).1, ok.len], ok.grow, ok.inj, ok.new, ok.dom, ok.odom, fun i r e => ?_⟩
  obtain ⟨h1, h2⟩ := (ex vs).2 i r e
  obtain ⟨v, e1, h⟩ := ok.val i r h1
  exact ⟨v, by rw [wipe_out h2]; exact e1, h⟩
/-- a new list goes into a slot that owns it -/
theorem Ok.setOwn (ok : Ok K O H0 A H σ ρ) {i : Nat} {a : Addr} {xs : List V} {ds : List PyData} (s : Same H H') (hn : H a = none) (ha : H' a = some (.lst xs)) (h : RpA K H' (fun x => Ow O A x ∨ x = a) xs ds) :
    Ok K O H0 (fun j => if j = i then some a else A j) H' (σ.set i (some (.ref a))) (ρ.set i (some (true, .list ds))) := by
  have sub : ∀ x, Ow O (fun j => if j = i then some a else A j) x → Ow O A x ∨ x = a := by
    intro x z
    rcases z with z | ⟨j, z⟩
    · exact .inl (.inl z)
    · by_cases hj : j = i
      · simp only [hj, if_true] at z
        exact .inr (Option.some.inj z).symm
      · simp only [hj, if_false] at z
        exact .inl (.inr ⟨j, z⟩)
  have na : ¬ Ow O A a := ok.fresh hn
  refine ⟨by rw [List.length_set, List.length_set, ok.len], ok.grow.trans s, fun j k b e1 e2 => ?_, fun j b e => ?_, fun j b e => ?_, ok.odom, fun j r e => ?_⟩
  · by_cases hj : j = i
    · by_cases hk : k = i
      · rw [hj, hk]
      · simp only [hj, if_true, hk, if_false] at e1 e2
        exact absurd (.inr ⟨k, by rw [e2, ← Option.some.inj e1]⟩) na
    · by_cases hk : k = i
      · simp only [hk, if_true, hj, if_false] at e1 e2
        exact absurd (.inr ⟨j, by rw [e1, ← Option.some.inj e2]⟩) na
      · simp only [hk, if_false, hj] at e1 e2
        exact ok.inj j k b e1 e2
  · by_cases hj : j = i
    · simp only [hj, if_true] at e
      rw [← Option.some.inj e]
      exact ok.grow.free hn
    · simp only [hj, if_false] at e
      exact ok.new j b e
  · by_cases hj : j = i
    · simp only [hj, if_true] at e
      rw [← Option.some.inj e]; exact ⟨xs, ha⟩
    · simp only [hj, if_false] at e
      obtain ⟨ys, q⟩ := ok.dom j b e
      exact ⟨ys, s _ _ q⟩
  · by_cases hj : i = j
    · subst hj
      by_cases hl : i < ρ.length
      · rw [List.getElem?_set_self hl] at e
        cases e
        refine ⟨.ref a, by rw [List.getElem?_set_self (by rw [ok.len]; exact hl)], a, xs, ds, by simp, rfl, rfl, ha, ?_⟩
        exact h.less sub
      · rw [List.getElem?_eq_none (by simpa using hl)] at e; cases e
    · rw [List.getElem?_set_ne hj] at e
      obtain ⟨v', e1, h'⟩ := ok.val j r e
      refine ⟨v', by rw [List.getElem?_set_ne hj]; exact e1, ?_⟩
      have hji : ¬ j = i := fun z => hj z.symm
      have hO : ∀ x, Ow O (fun j => if j = i then some a else A j) x → Ow O A x ∨ H x = none := fun x z => (sub x z).elim .inl fun e => .inr (by rw [e]; exact hn)
      obtain ⟨fl, d⟩ := r
      cases fl with
      | false => exact Rp.keep (fun _ _ e _ => s _ _ e) hO _ _ h'
      | true =>
        obtain ⟨b, ys, es, q1, q2, q3, q4, h'⟩ := h'
        exact ⟨b, ys, es, by simp only [hji, if_false]; exact q1, q2, q3, s _ _ q4, RpA.keep (fun _ _ e _ => s _ _ e) hO _ _ h'⟩
/-- an owned list of a slot is changed -/
theorem Ok.upd (ok : Ok K O H0 A H σ ρ) {i : Nat} {a : Addr} {ys : List V} {es : List PyData} (hA : A i = some a) (hv : σ[i]? = some (some (.ref a))) (h : RpA K H (Ow O A) ys es) :
    Ok K O H0 A (L2.upd H a (.lst ys)) σ (ρ.set i (some (true, .list es))) := by
  have k : ∀ b o, H b = some o → ¬ Ow O A b → (L2.upd H a (.lst ys)) b = some o := fun b o e n => by
    rw [upd_ne (fun z => n (.inr ⟨i, by rw [z]; exact hA⟩))]; exact e
  refine ⟨by rw [List.length_set, ok.len], fun b o e => ?_, ok.inj, ok.new, fun j b e => ?_, ok.odom, fun j r e => ?_⟩
  · rw [upd_ne (fun z => ?_)]
    · exact ok.grow b o e
    · subst z
      rw [ok.new i b hA] at e; cases e
  · by_cases hb : b = a
    · exact ⟨ys, by rw [hb]; exact upd_same⟩
    · obtain ⟨xs, q⟩ := ok.dom j b e
      exact ⟨xs, by rw [upd_ne hb]; exact q⟩
  · by_cases hj : i = j
    · subst hj
      by_cases hl : i < ρ.length
      · rw [List.getElem?_set_self hl] at e
        cases e
        exact ⟨.ref a, hv, a, ys, es, hA, rfl, rfl, upd_same, RpA.keep k (fun _ z => .inl z) _ _ h⟩
      · rw [List.getElem?_eq_none (by simpa using hl)] at e; cases e
    · rw [List.getElem?_set_ne hj] at e
      obtain ⟨v', e1, h'⟩ := ok.val j r e
      refine ⟨v', e1, ?_⟩
      obtain ⟨fl, d⟩ := r
      cases fl with
      | false => exact Rp.keep k (fun _ z => .inl z) _ _ h'
      | true =>
        obtain ⟨b, zs, fs, q1, q2, q3, q4, h'⟩ := h'
        refine ⟨b, zs, fs, q1, q2, q3, ?_, RpA.keep k (fun _ z => .inl z) _ _ h'⟩
        rw [upd_ne (fun z => hj (ok.inj i j a hA (by rw [← z]; exact q1)))]
        exact q4
/-- an owned list becomes shared -/
theorem Ok.share (ok : Ok K O H0 A H σ ρ) {i : Nat} {d : PyData} (he : ρ[i]? = some (some (true, d))) :
    Ok K O H0 (fun j => if j = i then none else A j) H σ (ρ.set i (some (false, d))) := by
  have sub : ∀ x, Ow O (fun j => if j = i then none else A j) x → Ow O A x := by
    intro x z
    rcases z with z | ⟨j, z⟩
    · exact .inl z
    · by_cases hj : j = i
      · simp only [hj, if_true] at z; cases z
      · simp only [hj, if_false] at z
        exact .inr ⟨j, z⟩
  refine ⟨by rw [List.length_set, ok.len], ok.grow, fun j k b e1 e2 => ?_, fun j b e => ?_, fun j b e => ?_, ok.odom, fun j r e => ?_⟩
  · by_cases hj : j = i
    · simp only [hj, if_true] at e1; cases e1
    · by_cases hk : k = i
      · simp only [hk, if_true] at e2; cases e2
      · simp only [hj, hk, if_false] at e1 e2
        exact ok.inj j k b e1 e2
  · by_cases hj : j = i
    · simp only [hj, if_true] at e; cases e
    · simp only [hj, if_false] at e; exact ok.new j b e
  · by_cases hj : j = i
    · simp only [hj, if_true] at e; cases e
    · simp only [hj, if_false] at e; exact ok.dom j b e
  · by_cases hj : i = j
    · subst hj
      by_cases hl : i < ρ.length
      · rw [List.getElem?_set_self hl] at e
        cases e
        obtain ⟨v, e1, a, xs, ds, q1, q2, q3, q4, h⟩ := ok.val i _ he
        refine ⟨v, e1, ?_⟩
        subst q2 q3
        refine .lst (.inl q4) (fun z => ?_) (h.less sub)
        rcases z with z | ⟨j, z⟩
        · obtain ⟨ys, q⟩ := ok.odom a z
          rw [ok.new i a q1] at q; cases q
        · by_cases hj : j = i
          · simp only [hj, if_true] at z; cases z
          · simp only [hj, if_false] at z
            exact hj (ok.inj j i a z q1)
      · rw [List.getElem?_eq_none (by simpa using hl)] at e; cases e
    · rw [List.getElem?_set_ne hj] at e
      obtain ⟨v', e1, h'⟩ := ok.val j r e
      refine ⟨v', e1, ?_⟩
      have hji : ¬ j = i := fun z => hj z.symm
      obtain ⟨fl, d⟩ := r
      cases fl with
      | false => exact Rp.less h' sub
      | true =>
        obtain ⟨b, zs, fs, q1, q2, q3, q4, h'⟩ := h'
        exact ⟨b, zs, fs, by simp only [hji, if_false]; exact q1, q2, q3, q4, h'.less sub⟩
end
end PV

set_option Elab.async false
set_option linter.all false
set_option maxRecDepth 100000
set_option maxHeartbeats 4000000
/-! PV3: operators, comparisons, subscripts, calls of built-ins over plain values. -/
namespace PV
open PySem PySem.Spec PyProof.Rows L2

section
variable {X : Cx}

/-- lists that are read -/
theorem lstR {pins : List (Addr × Obj)} {σ : L2.St} {H : Hp} {s : Shared} {l : Addr} {xs : List V} (I : Inv X pins σ H s) (hH : Rd H l (.lst xs)) :
    xs.length ≤ sizeLine ∧ ∃ (its : List Value) (n : Nat), Vals xs its ∧ xs.length = its.length ∧ s.heap.get? l = some { cls := .type "list", data := .seq its.toArray n } := by
  obtain ⟨z, its, n, r, e⟩ := hH.ok I.hok
  exact ⟨z, its, n, r, r.length, e⟩
theorem same_upd {H : Hp} {p : Addr} {o : HO} (h : H p = none) : Same H (upd H p o) := fun b x e => by
  rw [upd_ne (ne_of_none e h)]
  exact e
theorem LINE_eq : LINE = sizeLine := by rw [sizeLine_eq]; rfl
theorem lenOk_le {n : Nat} (h : lenOk n = true) : n ≤ sizeLine := by rw [← LINE_eq]; exact Nat.le_of_ble_eq_true h
theorem op_catS : OpR X (binaryOp .Add) (fun x y H Q => ∃ l b xs zs, x = .ref l ∧ y = .ref b ∧ Rd H l (.lst xs) ∧ Rd H b (.lst zs) ∧ xs.length + zs.length ≤ sizeLine ∧ ∀ p, H p = none → Q (.ref p) (upd H p (.lst (xs ++ zs)))) := by
  intro pins s σ H x y v u Q I rx ry h
  obtain ⟨l, b, xs, zs, rfl, rfl, hH, hB, hz, q⟩ := h
  cases rx
  cases ry
  obtain ⟨z, its, n, r, hl, e⟩ := lstR I hH
  obtain ⟨z2, its2, n2, r2, hl2, e2⟩ := lstR I hB
  refine PySem.P.add_list e e2 ?_ (by rw [List.size_toArray, List.size_toArray]; omega)
  have ea : its.toArray ++ its2.toArray = (its ++ its2).toArray := by simp
  rw [ea]
  exact ⟨.ref _, _, I.lnew (t' := s.toks) (r.append r2) (by rw [List.length_append]; omega), rfl, q _ I.fresh⟩
theorem op_repS : OpR X (binaryOp .Mult) (fun x y H Q => ∃ l k xs, x = .ref l ∧ y = .int k ∧ Rd H l (.lst xs) ∧ -(2 ^ 63) ≤ k ∧ k < 2 ^ 63 ∧ xs.length * k.toNat ≤ sizeLine ∧
  ∀ p, H p = none → Q (.ref p) (upd H p (.lst (List.replicate k.toNat xs).flatten))) := by
  intro pins s σ H x y v u Q I rx ry h
  obtain ⟨l, k, xs, rfl, rfl, hH, h1, h2, hz, q⟩ := h
  cases rx
  obtain ⟨t, rfl⟩ := ry
  obtain ⟨z, its, n, r, hl, e⟩ := lstR I hH
  have hlen : its.toArray.size * k.toNat ≤ sizeLine := by rw [List.size_toArray, ← hl]; exact hz
  have hcap : ¬ its.toArray.size * k.toNat > (2 ^ 63 - 1) / 8 := by
    have : (sizeLine : Nat) ≤ (2 ^ 63 - 1) / 8 := by decide
    omega
  have hfit : ¬ (!Builtin.List.listFitsIndex k) = true := by
    rw [fitsIndex_both h1 h2]
    exact Bool.false_ne_true
  have hlong : ¬ Builtin.List.listTooLong (its.toArray.size * k.toNat) = true := by
    rw [notLongL hlen]
    exact Bool.false_ne_true
  have hnew : List.foldl (fun x1 x2 => x1 ++ x2) #[] (List.replicate (if its.toArray.isEmpty = true then 0 else k.toNat) its.toArray) = (List.replicate k.toNat its).flatten.toArray := by
    have f0 : ∀ m : Nat, List.foldl (fun x1 x2 => x1 ++ x2) #[] (List.replicate m its.toArray) = (List.replicate m its).flatten.toArray := fun m => by
      have := foldl_rep its m []
      rw [List.nil_append] at this
      exact this
    rw [f0]
    cases its with
    | nil => simp
    | cons a r' => rw [if_neg (by simp)]
  refine wpAny_binaryOp_repeat_ref (T := "list") (U := "int") (by decide) ⟨_, e, rfl⟩ (fun s' => typeIs_int s' k t) noFill_list_mul F.fills_int_mul F.slot_int_rmul repeat_list F.slot_int_index.lookup
    (call_meets F.slot_int_rmul (typeIs_int s k t) F.entry_int_rmul (F.args_int_rmul_2 _ _) (int___rmul___int_list k t l its.toArray n)
      ⟨e, rfl, ⟨_, e, rfl⟩, call_meets F.slot_list_mul ⟨_, e, rfl⟩ F.entry_list_mul (F.args_list_mul_2 _ _) (AutoListH.list___mul___list_int_3 l its.toArray n k t hfit hcap hlong) ⟨e, ?_⟩⟩)
  rw [hnew]
  exact ⟨.ref _, _, I.lnew (t' := s.toks) (r.rep k.toNat) (by rw [PyProof.Rows.lm_len_rep_flat, Nat.mul_comm]; exact hz), rfl, q _ I.fresh⟩
theorem ext_tup (l : Addr) (us : Array Value) (n : Nat) (b : Addr) (zs : Array Value) (n2 : Nat) (kd : Option Addr) (ks : Array (Option Value)) (c0 : ¬(!us.isEmpty && Builtin.List.listTooLong (us.size + zs.size)) = true) (c1 : us.size ≤ sizeLine) (c2 : us.size + zs.size ≤ sizeLine + 1) :
    Meets (Builtin.«list.extend» ⟨[.ref l, .ref b], []⟩) (fun _ R s => s.heap.get? l = some { cls := .type "list", dict := none, data := .seq us n, slots := #[] } ∧ s.heap.get? b = some { cls := .type "tuple", dict := kd, data := .seq zs n2, slots := ks } ∧
      R (.ok (.ret Value.none)) { s with heap := s.heap.update l (Obj.mapSeq fun x => x ++ zs), toks := s.toks }) :=
  .of_wp fun prog w A R s h => by
    obtain ⟨hp, g, d, tk, os⟩ := s
    obtain ⟨hl, hb, h⟩ := h
    have f1 := AutoSeq1.idx_int; have f2 := AutoSeq1.sub_tuple_tuple; have f3 := AutoSeq1.sub_list_list; have f4 := AutoSeq1.sub_tuple_list; have f5 := AutoSeq1.sub_list_tuple
    have z0 : (us ++ zs).size ≤ sizeLine + 1 := by rw [Array.size_append]; exact c2
    wp_walk using (wpAny_updateSeq hl rfl (hz := c1) (_hz' := z0)), wpAny_loadPart' hl, wpAny_loadPart' hb
    exact ⟨_, rfl, h⟩
theorem mt_extendS : MtM X "list.extend" (fun x vs H Q => ∃ l b xs zs, x = .ref l ∧ vs = [.ref b] ∧ H l = some (.lst xs) ∧ (Rd H b (.lst zs) ∨ SqT X.K H b zs) ∧ xs.length + zs.length ≤ sizeLine ∧ Q .non (upd H l (.lst (xs ++ zs)))) := by
  intro pins s σ H x vs v us Q I rx rv h
  obtain ⟨l, b, xs, zs, rfl, rfl, hH, hB, hz, q⟩ := h
  cases rx
  obtain ⟨u, rfl, ru⟩ := rv.one
  cases ru
  obtain ⟨z, its, n, r, hl, e⟩ := I.lstM hH
  rcases hB with hB | hB
  · obtain ⟨z2, its2, n2, r2, hl2, e2⟩ := lstR I hB
    have hsz : its.toArray.size + its2.toArray.size ≤ sizeLine := by rw [List.size_toArray, List.size_toArray]; omega
    have hlong : ¬ (!its.toArray.isEmpty && Builtin.List.listTooLong (its.toArray.size + its2.toArray.size)) = true := by rw [notLongL hsz, Bool.and_false]; exact Bool.false_ne_true
    refine call_meets F.slot_list_extend ⟨_, e, rfl⟩ F.entry_list_extend (F.args_list_extend_2 _ _)
      (AutoSeq1.list_extend_list_list_0 l its.toArray n b its2.toArray n2 hlong (by rw [List.size_toArray]; omega) (by omega)) ⟨e, e2, ?_⟩
    refine ⟨.non, _, I.lset (its' := its ++ its2) hH e (by simp) (r.append r2) ?_, rfl, q⟩
    rw [List.length_append]
    omega
  · obtain ⟨its2, r2, pl, hz2⟩ := I.tuple hB
    have hl2 := r2.length
    have hsz : its.toArray.size + its2.toArray.size ≤ sizeLine := by rw [List.size_toArray, List.size_toArray]; omega
    have hlong : ¬ (!its.toArray.isEmpty && Builtin.List.listTooLong (its.toArray.size + its2.toArray.size)) = true := by rw [notLongL hsz, Bool.and_false]; exact Bool.false_ne_true
    obtain ⟨ob, ho, hcl, n2, hd2⟩ := pl
    obtain ⟨kc, kd, kx, ks⟩ := ob
    simp only at hcl hd2
    subst hcl; subst hd2
    refine call_meets F.slot_list_extend ⟨_, e, rfl⟩ F.entry_list_extend (F.args_list_extend_2 _ _) (ext_tup l its.toArray n b its2.toArray n2 kd ks hlong (by rw [List.size_toArray]; omega) (by omega)) ⟨e, ho, ?_⟩
    refine ⟨.non, _, I.lset (its' := its ++ its2) hH e (by simp) (r.append r2) ?_, rfl, q⟩
    rw [List.length_append]
    omega

/-! ### + - * // % ** << >> & | -/
def opOf : BOp → Operator
  | .add => .Add | .sub => .Sub | .mul => .Mult | .fdiv => .FloorDiv | .mod => .Mod | .pow => .Pow | .shl => .LShift | .shr => .RShift | .band => .BitAnd | .bor => .BitOr
/-- a value that comes of two -/
abbrev Gives (K : PySem.W.Frag) (H : Hp) (P : Addr → Prop) (r : R) (Q : VK) : Prop := ∀ v H', Same H H' → RpR K H H' P false v r → Q v H'
theorem Gives.sh {K : PySem.W.Frag} {H : Hp} {P : Addr → Prop} {d : PyData} {Q : VK} {v : V} (h : Gives K H P (false, d) Q) (r : Rp K H P v d) : Q v H := h v H (Same.refl H) r
theorem Gives.new {K : PySem.W.Frag} {H : Hp} {P : Addr → Prop} {ds : List PyData} {xs : List V} {Q : VK} (hP : ∀ a, P a → H a ≠ none) (h : Gives K H P (true, .list ds) Q) (r : RpA K H P xs ds) (p : Addr) (hp : H p = none) : Q (.ref p) (upd H p (.lst xs)) :=
  h _ _ (same_upd hp) ⟨p, xs, ds, rfl, rfl, upd_same, hp, RpA.keep (fun a o e _ => same_upd hp a o e) (fun a z => z.elim .inl fun e => .inr (by rw [e]; exact hp)) _ _ r⟩
def rBin (K : PySem.W.Frag) (o : BOp) : R2 := fun x y H Q => ∃ (P : Addr → Prop) (d e : PyData) (r : R), (∀ a, P a → H a ≠ none) ∧ RpB K H P x d ∧ RpB K H P y e ∧ evBin o d e = some r ∧ Gives K H P r Q
theorem mulOk_of {i j : Int} (h : mulOk i j = true) : CMulW i j := Nat.le_of_ble_eq_true h
/-- // by a divisor below 2 ^ 9000, of any sign -/
def CDivF (_ j : Int) : Prop := j ≠ 0 ∧ j.natAbs.log2 < 9000
theorem op_fdivF : OpR X (binaryOp .FloorDiv) (rI CDivF fun i j => .int (i.fdiv j)) := opI fun i j _ _ _ _ _ c q => floordiv_int c.1 q (.inl (PyProof.noPylong_of_log2 c.2))
theorem divOk_of {i j : Int} (h : divOk j = true) : CDivF i j := by
  unfold divOk at h
  rw [Bool.and_eq_true] at h
  exact ⟨of_decide_eq_true h.1, Nat.le_of_ble_eq_true h.2⟩
theorem powOk_of {i j : Int} (h : powOk i j = true) : CPow i j := by
  unfold powOk at h
  rw [Bool.and_eq_true, Bool.and_eq_true] at h
  exact ⟨of_decide_eq_true h.1.1, of_decide_eq_true h.1.2, Nat.le_of_ble_eq_true h.2⟩
theorem op_bin (o : BOp) : OpR X (binaryOp (opOf o)) (rBin X.K o) := by
  intro pins s σ H x y v u Q I rx ry ⟨P, d, e, r, hP, hd, he, ev, q⟩
  cases d <;> cases e <;> try (cases o <;> cases ev)
  case int.int i j =>
    have := hd.int
    have := he.int
    subst x y
    cases o
    case add => cases ev; exact op_add pins s σ H _ _ v u Q I rx ry ⟨i, j, rfl, rfl, q.sh (.int _)⟩
    case sub => cases ev; exact op_sub pins s σ H _ _ v u Q I rx ry ⟨i, j, rfl, rfl, q.sh (.int _)⟩
    case mul =>
      simp only [evBin] at ev
      split at ev
      · rename_i hc; cases ev; exact op_mulW pins s σ H _ _ v u Q I rx ry ⟨i, j, rfl, rfl, mulOk_of hc, q.sh (.int _)⟩
      · cases ev
    case fdiv =>
      simp only [evBin] at ev
      split at ev
      · rename_i hc; cases ev; exact op_fdivF pins s σ H _ _ v u Q I rx ry ⟨i, j, rfl, rfl, divOk_of hc, q.sh (.int _)⟩
      · cases ev
    case mod =>
      simp only [evBin] at ev
      split at ev
      · rename_i hc; cases ev; exact op_mod pins s σ H _ _ v u Q I rx ry ⟨i, j, rfl, rfl, of_decide_eq_true hc, q.sh (.int _)⟩
      · cases ev
    case pow =>
      simp only [evBin] at ev
      split at ev
      · rename_i hc; cases ev; exact op_pow pins s σ H _ _ v u Q I rx ry ⟨i, j, rfl, rfl, powOk_of hc, q.sh (.int _)⟩
      · cases ev
    case shl =>
      simp only [evBin] at ev
      split at ev
      · rename_i hc; cases ev; exact op_shl pins s σ H _ _ v u Q I rx ry ⟨i, j, rfl, rfl, powOk_of hc, q.sh (.int _)⟩
      · cases ev
    case shr =>
      simp only [evBin] at ev
      split at ev
      · rename_i hc; cases ev; exact op_shr pins s σ H _ _ v u Q I rx ry ⟨i, j, rfl, rfl, of_decide_eq_true hc, q.sh (.int _)⟩
      · cases ev
    case band => cases ev; exact op_and pins s σ H _ _ v u Q I rx ry ⟨i, j, rfl, rfl, q.sh (.int _)⟩
    case bor => cases ev; exact op_or pins s σ H _ _ v u Q I rx ry ⟨i, j, rfl, rfl, q.sh (.int _)⟩
  case list.list as bs =>
    cases o
    case add =>
      simp only [evBin] at ev
      split at ev
      · rename_i hc
        cases ev
        obtain ⟨a, xs, rfl, h1, ha⟩ := hd.list
        obtain ⟨b, ys, rfl, h2, hb⟩ := he.list
        refine op_catS pins s σ H _ _ v u Q I rx ry ⟨a, b, xs, ys, rfl, rfl, h1, h2, ?_, fun p hp => q.new hP (ha.append hb) p hp⟩
        rw [ha.length, hb.length]
        exact lenOk_le hc
      · cases ev
    all_goals cases ev
  case list.int as k =>
    cases o
    case mul =>
      simp only [evBin] at ev
      split at ev
      · rename_i hc
        cases ev
        rw [Bool.and_eq_true, Bool.and_eq_true] at hc
        obtain ⟨⟨c1, c2⟩, c3⟩ := hc
        have c1 := of_decide_eq_true c1
        have c2 := of_decide_eq_true c2
        obtain ⟨a, xs, rfl, h1, ha⟩ := hd.list
        have := he.int
        subst y
        refine op_repS pins s σ H _ _ v u Q I rx ry ⟨a, k, xs, rfl, rfl, h1, by omega, by omega, ?_, fun p hp => q.new hP (ha.rep _) p hp⟩
        rw [ha.length]
        exact lenOk_le c3
      · cases ev
    all_goals cases ev
def rNeg (K : PySem.W.Frag) : V → Hp → VK → Prop := fun x H Q => ∃ (P : Addr → Prop) (d : PyData) (r : R), RpB K H P x d ∧ evNeg d = some r ∧ Gives K H P r Q
theorem op_neg : UnR X (unaryOp .USub) (rNeg X.K) := by
  intro pins s σ H x v Q I rx ⟨P, d, r, hd, ev, q⟩
  cases d <;> cases ev
  have := hd.int
  subst x
  exact un_neg pins s σ H _ v Q I rx ⟨_, rfl, q.sh (.int _)⟩

/-! ### comparisons -/
def copOf : COp → CmpOp
  | .eq => .Eq | .ne => .NotEq | .lt => .Lt | .le => .LtE | .gt => .Gt | .ge => .GtE | .isn => .Is | .notn => .IsNot | .inn => .In | .notin => .NotIn
def rCmp (K : PySem.W.Frag) (o : COp) : R2 := fun x y H Q => ∃ (P : Addr → Prop) (d e : PyData) (k : Bool), RpB K H P x d ∧ RpB K H P y e ∧ evCmp o d e = some k ∧ Q (.bl k) H
theorem dok_plain {d : PyData} (h : dok d = true) : d.plain = true ∧ d.depth ≤ 50 := by
  unfold dok at h
  rw [Bool.and_eq_true] at h
  exact ⟨h.2, Nat.le_of_ble_eq_true h.1⟩
theorem op_eqP (hu : X.A.units + 64 < cLine) {neg : Bool} : OpR X (compareOp (if neg then .NotEq else .Eq)) (fun x y H Q => ∃ d e, Dp X.K H x d ∧ Dp X.K H y e ∧ dok d = true ∧ dok e = true ∧ Q (.bl (if neg then !PyData.eqv d e else PyData.eqv d e)) H) := by
  intro pins s σ H x y v u Q I rx ry ⟨d, e, hd, he, od, oe, q⟩
  obtain ⟨as, r1⟩ := Dp.reads I d x v hd rx
  obtain ⟨bs, r2⟩ := Dp.reads I e y u he ry
  obtain ⟨p1, n1⟩ := dok_plain od
  obtain ⟨p2, n2⟩ := dok_plain oe
  have hm : min d.depth e.depth ≤ 50 := Nat.le_trans (Nat.min_le_left _ _) n1
  cases neg with
  | false => exact SeqAt.eq_plain r1 r2 p1 p2 (by omega) ⟨.bl _, H, I, rfl, q⟩
  | true => exact SeqAt.ne_plain r1 r2 p1 p2 (by omega) ⟨.bl _, H, I, rfl, q⟩
theorem depth_items {ds : List PyData} : PyData.depthAll ds ≤ (PyData.list ds).depth := by
  simp only [PyData.depth]; omega
theorem depth_itemsT {ds : List PyData} : PyData.depthAll ds ≤ (PyData.tuple ds).depth := by
  simp only [PyData.depth]; omega
theorem op_inP (hu : X.A.units + 64 < cLine) {neg : Bool} : OpR X (compareOp (if neg then .NotIn else .In)) (fun x y H Q => ∃ d ds, Dp X.K H x d ∧ (Dp X.K H y (.list ds) ∧ dok (.list ds) = true ∨ Dp X.K H y (.tuple ds) ∧ dok (.tuple ds) = true) ∧ dok d = true ∧
    Q (.bl (if neg then !ds.any (fun z => PyData.eqv z d) else ds.any (fun z => PyData.eqv z d))) H) := by
  intro pins s σ H x y v u Q I rx ry ⟨d, ds, hd, he, od, q⟩
  obtain ⟨as, r1⟩ := Dp.reads I d x v hd rx
  obtain ⟨p1, n1⟩ := dok_plain od
  rcases he with ⟨he, oe⟩ | ⟨he, oe⟩
  · obtain ⟨bs, r2⟩ := Dp.reads I (.list ds) y u he ry
    obtain ⟨p2, n2⟩ := dok_plain oe
    have hm : min (PyData.depthAll ds) d.depth ≤ 50 := Nat.le_trans (Nat.min_le_right _ _) n1
    have p3 : PyData.plainAll ds = true := by simpa [PyData.plain] using p2
    cases neg with
    | false => exact SeqAt.in_list_data r2 r1 p3 p1 (by omega) ⟨.bl _, H, I, rfl, q⟩
    | true => exact SeqAt.notIn_list_data r2 r1 p3 p1 (by omega) ⟨.bl _, H, I, rfl, q⟩
  · obtain ⟨bs, r2⟩ := Dp.reads I (.tuple ds) y u he ry
    obtain ⟨p2, n2⟩ := dok_plain oe
    have hm : min (PyData.depthAll ds) d.depth ≤ 50 := Nat.le_trans (Nat.min_le_right _ _) n1
    have p3 : PyData.plainAll ds = true := by simpa [PyData.plain] using p2
    cases neg with
    | false => exact SeqAt.in_tuple_data r2 r1 p3 p1 (by omega) ⟨.bl _, H, I, rfl, q⟩
    | true => exact SeqAt.notIn_tuple_data r2 r1 p3 p1 (by omega) ⟨.bl _, H, I, rfl, q⟩
theorem op_cmp (hu : X.A.units + 64 < cLine) (o : COp) : OpR X (compareOp (copOf o)) (rCmp X.K o) := by
  intro pins s σ H x y v u Q I rx ry ⟨P, d, e, k, hd, he, ev, q⟩
  have hin : ∀ neg : Bool, (copOf o = if neg then .NotIn else .In) → (∃ ds, (e = .list ds ∨ e = .tuple ds) ∧ dok d = true ∧ dok e = true ∧ k = if neg then !ds.any (fun z => PyData.eqv z d) else ds.any (fun z => PyData.eqv z d)) → wpAny (model X.prog X.w) X.A (compareOp (copOf o) v u) (EP X pins σ Q) X.xe s := by
    intro neg eo ⟨ds, eds, od, oe, ek⟩
    rw [eo]
    refine op_inP hu (neg := neg) pins s σ H x y v u Q I rx ry ⟨d, ds, hd.dp, ?_, od, by subst ek; exact q⟩
    rcases eds with e1 | e1
    · subst e1; exact .inl ⟨he.dp, oe⟩
    · subst e1; exact .inr ⟨he.dp, oe⟩
  have heq : ∀ neg : Bool, (copOf o = if neg then .NotEq else .Eq) → dok d = true → dok e = true → (k = if neg then !PyData.eqv d e else PyData.eqv d e) → wpAny (model X.prog X.w) X.A (compareOp (copOf o) v u) (EP X pins σ Q) X.xe s := by
    intro neg eo od oe ek
    rw [eo]
    exact op_eqP hu (neg := neg) pins s σ H x y v u Q I rx ry ⟨d, e, hd.dp, he.dp, od, oe, by subst ek; exact q⟩
  unfold evCmp at ev
  split at ev
  · cases ev; have h1 := hd.int; have h2 := he.int; subst x y
    refine L2.op_eq pins s σ H _ _ v u Q I rx ry ⟨rfl, ?_⟩
    rename_i i j
    rw [show decide (V.int i = V.int j) = decide (i = j) from by simp]
    exact q
  · cases ev; have h1 := hd.int; have h2 := he.int; subst x y
    refine L2.op_ne pins s σ H _ _ v u Q I rx ry ⟨rfl, ?_⟩
    rename_i i j
    rw [show decide (V.int i = V.int j) = decide (i = j) from by simp]
    exact q
  · cases ev; have h1 := hd.int; have h2 := he.int; subst x y
    exact op_lt pins s σ H _ _ v u Q I rx ry ⟨_, _, rfl, rfl, q⟩
  · cases ev; have h1 := hd.int; have h2 := he.int; subst x y
    exact op_le pins s σ H _ _ v u Q I rx ry ⟨_, _, rfl, rfl, q⟩
  · cases ev; have h1 := hd.int; have h2 := he.int; subst x y
    exact op_gt pins s σ H _ _ v u Q I rx ry ⟨_, _, rfl, rfl, q⟩
  · cases ev; have h1 := hd.int; have h2 := he.int; subst x y
    exact op_ge pins s σ H _ _ v u Q I rx ry ⟨_, _, rfl, rfl, q⟩
  · cases ev
    exact op_isN pins s σ H _ _ v u Q I rx ry ⟨he.none, by rw [hd.notnone]; exact q⟩
  · cases ev
    exact op_notN pins s σ H _ _ v u Q I rx ry ⟨he.none, by rw [hd.notnone]; exact q⟩
  · cases ev; have h1 := hd.bool; have h2 := he.bool; subst x y; cases rx; cases ry
    exact PyProof.Rows.is_bool ⟨.bl _, H, I, rfl, q⟩
  · cases ev; have h1 := hd.bool; have h2 := he.bool; subst x y; cases rx; cases ry
    exact PyProof.Rows.isnot_bool ⟨.bl _, H, I, rfl, q⟩
  · cases ev; have h1 := hd.none; have h2 := he.bool; subst x y; cases rx; cases ry
    exact wpAny_pure (a := Value.bool false) ⟨.bl _, H, I, rfl, q⟩
  · cases ev; have h1 := hd.none; have h2 := he.bool; subst x y; cases rx; cases ry
    exact wpAny_pure (a := Value.bool true) ⟨.bl _, H, I, rfl, q⟩
  · split at ev
    · rename_i hc; cases ev; rw [Bool.and_eq_true] at hc; exact heq false rfl hc.1 hc.2 rfl
    · cases ev
  · split at ev
    · rename_i hc; cases ev; rw [Bool.and_eq_true] at hc; exact heq true rfl hc.1 hc.2 rfl
    · cases ev
  · split at ev
    · rename_i hc; cases ev; rw [Bool.and_eq_true] at hc; exact hin false rfl ⟨_, .inl rfl, hc.1, hc.2, rfl⟩
    · cases ev
  · split at ev
    · rename_i hc; cases ev; rw [Bool.and_eq_true] at hc; exact hin true rfl ⟨_, .inl rfl, hc.1, hc.2, rfl⟩
    · cases ev
  · split at ev
    · rename_i hc; cases ev; rw [Bool.and_eq_true] at hc; exact hin false rfl ⟨_, .inr rfl, hc.1, hc.2, rfl⟩
    · cases ev
  · split at ev
    · rename_i hc; cases ev; rw [Bool.and_eq_true] at hc; exact hin true rfl ⟨_, .inr rfl, hc.1, hc.2, rfl⟩
    · cases ev
  · cases ev

/-! ### subscripts -/
theorem atI_rp {K : PySem.W.Frag} {H : Hp} {P : Addr → Prop} {xs : List V} {ds : List PyData} {i : Int} {d : PyData} (h : RpA K H P xs ds) (e : atI ds i = some d) : ∃ v, atI xs i = some v ∧ Rp K H P v d := by
  unfold atI at e ⊢
  rw [h.length]
  cases q : ixN ds.length i with
  | none => rw [q] at e; cases e
  | some j =>
    rw [q] at e
    exact h.get e
def rIxP (K : PySem.W.Frag) : R2 := fun x y H Q => ∃ (P : Addr → Prop) (d e : PyData) (r : R), RpB K H P x d ∧ RpB K H P y e ∧ evIx d e = some r ∧ Gives K H P r Q
theorem ix_P : IxR X (rIxP X.K) := by
  intro value slice pins s σ H x y v u Q I rx ry ⟨P, d, e, r, hd, he, ev, q⟩ hs
  unfold evIx at ev
  split at ev
  · obtain ⟨a, xs, rfl, h1, ha⟩ := hd.list
    have := he.int
    subst y
    rename_i ds i
    cases e1 : atI ds i with
    | none => rw [e1] at ev; cases ev
    | some d =>
      rw [e1] at ev
      cases ev
      obtain ⟨w, e2, hw⟩ := atI_rp ha e1
      exact ix_list value slice pins s σ H _ _ v u Q I rx ry ⟨a, xs, i, w, rfl, rfl, .inl h1, e2, q.sh hw⟩ hs
  · obtain ⟨a, xs, rfl, h1, ha⟩ := hd.tuple
    have := he.int
    subst y
    rename_i ds i
    cases e1 : atI ds i with
    | none => rw [e1] at ev; cases ev
    | some d =>
      rw [e1] at ev
      cases ev
      obtain ⟨w, e2, hw⟩ := atI_rp ha e1
      exact ix_tup value slice pins s σ H _ _ v u Q I rx ry ⟨a, xs, i, w, rfl, rfl, h1, e2, q.sh hw⟩ hs
  · cases ev
def rSlP (K : PySem.W.Frag) : V → Option Int → Option Int → Hp → VK → Prop := fun x lo hi H Q => ∃ (P : Addr → Prop) (d : PyData) (r : R), (∀ a, P a → H a ≠ none) ∧ RpB K H P x d ∧ evSl d lo hi = some r ∧ Gives K H P r Q
theorem sl_P : SlR X (rSlP X.K) := by
  intro pins s σ H x v vl vu lo hi sl Q I rx h1 h2 h3 ⟨P, d, r, hP, hd, ev, q⟩
  unfold evSl at ev
  split at ev
  · cases ev
    obtain ⟨a, xs, rfl, h1', ha⟩ := hd.list
    refine sl_list pins s σ H _ v vl vu lo hi sl Q I rx h1 h2 h3 ⟨a, xs, rfl, .inl h1', fun p hp => ?_⟩
    refine q.new hP ?_ p hp
    unfold cutV cutD
    rw [ha.length]
    exact (ha.drop _).take _
  · cases ev

end
end PV

set_option Elab.async false
set_option linter.all false
set_option maxRecDepth 100000
set_option maxHeartbeats 4000000
/-! PV4: calls of built-ins over plain values. -/
namespace PV
open PySem PySem.Spec PyProof.Rows L2

theorem Gives.newT {K : PySem.W.Frag} {H : Hp} {P : Addr → Prop} {ds : List PyData} {xs : List V} {Q : VK} (hP : ∀ a, P a → H a ≠ none) (h : Gives K H P (false, .tuple ds) Q) (r : RpA K H P xs ds) (p : Addr) (hp : H p = none) : Q (.ref p) (upd H p (.tup xs)) :=
  h _ _ (same_upd hp) (.tup (.inl ⟨.inl upd_same, fun z => hP p z hp⟩) (r.same (same_upd hp)))
abbrev RpBs (K : PySem.W.Frag) (H : Hp) (P : Addr → Prop) : List V → List PyData → Prop := Paired (RpB K H P)
def rBI (K : PySem.W.Frag) (b : BI) : List V → Hp → VK → Prop := fun vs H Q => ∃ (P : Addr → Prop) (ds : List PyData) (r : R), (∀ a, P a → H a ≠ none) ∧ RpBs K H P vs ds ∧ evBI b ds = some r ∧ Gives K H P r Q
section
variable {K : PySem.W.Frag} {H : Hp} {P : Addr → Prop}
theorem one {vs : List V} {d : PyData} (h : RpBs K H P vs [d]) : ∃ v, vs = [v] ∧ RpB K H P v d := by
  cases h with
  | cons r t => cases t; exact ⟨_, rfl, r⟩
theorem two {vs : List V} {d e : PyData} (h : RpBs K H P vs [d, e]) : ∃ v u, vs = [v, u] ∧ RpB K H P v d ∧ RpB K H P u e := by
  cases h with
  | cons r t =>
    cases t with
    | cons r2 t => cases t; exact ⟨_, _, rfl, r, r2⟩
theorem minI_mem : ∀ (xs : List Int) (m : Int), (minI m xs = m ∨ minI m xs ∈ xs) ∧ minI m xs ≤ m ∧ ∀ y ∈ xs, minI m xs ≤ y
  | [], m => ⟨.inl rfl, Int.le_refl _, fun y h => absurd h (by simp)⟩
  | x :: xs, m => by
    obtain ⟨h1, h2, h3⟩ := minI_mem xs (if x < m then x else m)
    show (minI (if x < m then x else m) xs = m ∨ minI (if x < m then x else m) xs ∈ x :: xs) ∧ minI (if x < m then x else m) xs ≤ m ∧ ∀ y ∈ x :: xs, minI (if x < m then x else m) xs ≤ y
    generalize minI (if x < m then x else m) xs = k at h1 h2 h3
    refine ⟨?_, ?_, fun y hy => ?_⟩
    · rcases h1 with h1 | h1
      · by_cases q : x < m
        · rw [if_pos q] at h1; exact .inr (by rw [h1]; exact List.mem_cons_self)
        · rw [if_neg q] at h1; exact .inl h1
      · exact .inr (List.mem_cons_of_mem _ h1)
    · split at h2 <;> omega
    · rcases List.mem_cons.mp hy with rfl | hy
      · split at h2 <;> omega
      · exact h3 y hy
theorem maxI_mem : ∀ (xs : List Int) (m : Int), (maxI m xs = m ∨ maxI m xs ∈ xs) ∧ m ≤ maxI m xs ∧ ∀ y ∈ xs, y ≤ maxI m xs
  | [], m => ⟨.inl rfl, Int.le_refl _, fun y h => absurd h (by simp)⟩
  | x :: xs, m => by
    obtain ⟨h1, h2, h3⟩ := maxI_mem xs (if m < x then x else m)
    show (maxI (if m < x then x else m) xs = m ∨ maxI (if m < x then x else m) xs ∈ x :: xs) ∧ m ≤ maxI (if m < x then x else m) xs ∧ ∀ y ∈ x :: xs, y ≤ maxI (if m < x then x else m) xs
    generalize maxI (if m < x then x else m) xs = k at h1 h2 h3
    refine ⟨?_, ?_, fun y hy => ?_⟩
    · rcases h1 with h1 | h1
      · by_cases q : m < x
        · rw [if_pos q] at h1; exact .inr (by rw [h1]; exact List.mem_cons_self)
        · rw [if_neg q] at h1; exact .inl h1
      · exact .inr (List.mem_cons_of_mem _ h1)
    · split at h2 <;> omega
    · rcases List.mem_cons.mp hy with rfl | hy
      · split at h2 <;> omega
      · exact h3 y hy
theorem insI_perm (x : Int) : ∀ l, (insI x l).Perm (x :: l)
  | [] => .refl _
  | y :: ys => by
    unfold insI
    split
    · exact .refl _
    · exact (List.Perm.cons y (insI_perm x ys)).trans (.swap x y ys)
theorem sortI_perm : ∀ l, (sortI l).Perm l
  | [] => .refl _
  | x :: xs => (insI_perm x _).trans ((sortI_perm xs).cons x)
theorem insI_pw (x : Int) : ∀ l : List Int, l.Pairwise (· ≤ ·) → (insI x l).Pairwise (· ≤ ·)
  | [], _ => by simp [insI]
  | y :: ys, h => by
    rw [List.pairwise_cons] at h
    unfold insI
    split
    · rename_i hxy
      rw [List.pairwise_cons]
      refine ⟨fun z hz => ?_, List.pairwise_cons.mpr h⟩
      rcases List.mem_cons.mp hz with rfl | hz
      · exact hxy
      · exact Int.le_trans hxy (h.1 z hz)
    · rename_i hxy
      rw [List.pairwise_cons]
      refine ⟨fun z hz => ?_, insI_pw x ys h.2⟩
      rcases List.mem_cons.mp ((insI_perm x ys).mem_iff.mp hz) with rfl | hz
      · omega
      · exact h.1 z hz
theorem sortI_pw : ∀ l : List Int, (sortI l).Pairwise (· ≤ ·)
  | [] => .nil
  | x :: xs => insI_pw x _ (sortI_pw xs)
theorem rpA_list_ints {ds : List PyData} {ns : List Int} {xs : List V} (e : intsOf ds = some ns) (h : RpA K H P xs ds) : xs = ns.map V.int := by
  rw [intsOf_eq e] at h
  exact rpA_int_inv h
end
section
variable {X : Cx}
theorem call_lenP : CallR X (.builtin "len") (rBI X.K .len) := by
  intro pins s σ H xs us Q I r ⟨P, ds, rr, hP, hd, ev, q⟩
  unfold evBI at ev
  split at ev <;> first | (rename_i z1; cases z1) | skip
  · cases ev
    obtain ⟨v, rfl, h⟩ := one hd
    obtain ⟨a, ys, rfl, h1, ha⟩ := h.list
    exact call_len_seq pins s σ H _ us Q I r ⟨a, ys, rfl, .inl (.inl h1), by rw [ha.length]; exact q.sh (.int _)⟩
  · cases ev
    obtain ⟨v, rfl, h⟩ := one hd
    obtain ⟨a, ys, rfl, h1, ha⟩ := h.tuple
    exact call_len_seq pins s σ H _ us Q I r ⟨a, ys, rfl, .inr h1, by rw [ha.length]; exact q.sh (.int _)⟩
  · cases ev
theorem call_absP : CallR X (.builtin "abs") (rBI X.K .abs) := by
  intro pins s σ H xs us Q I r ⟨P, ds, rr, hP, hd, ev, q⟩
  unfold evBI at ev
  split at ev <;> first | (rename_i z1; cases z1) | skip
  · cases ev
    obtain ⟨v, rfl, h⟩ := one hd
    have := h.int
    subst this
    exact call_abs pins s σ H _ us Q I r ⟨_, rfl, q.sh (.int _)⟩
  · cases ev
theorem call_intP : CallR X (.type "int") (rBI X.K .int) := by
  intro pins s σ H xs us Q I r ⟨P, ds, rr, hP, hd, ev, q⟩
  unfold evBI at ev
  split at ev <;> first | (rename_i z1; cases z1) | skip
  · cases ev
    obtain ⟨v, rfl, h⟩ := one hd
    have := h.int
    subst this
    exact call_int1 pins s σ H _ us Q I r (.inl ⟨_, rfl, q.sh (.int _)⟩)
  · cases ev
    obtain ⟨v, rfl, h⟩ := one hd
    have := h.bool
    subst this
    exact call_int1 pins s σ H _ us Q I r (.inr ⟨_, rfl, q.sh (.int _)⟩)
  · cases ev
theorem call_minP (hc : X.calm = true) : CallR X (.builtin "min") (rBI X.K .min) := by
  intro pins s σ H xs us Q I r ⟨P, ds, rr, hP, hd, ev, q⟩
  unfold evBI at ev
  split at ev <;> first | (rename_i z1; cases z1) | skip
  · cases ev
    obtain ⟨v, u, rfl, h, h'⟩ := two hd
    have := h.int
    subst this
    have := h'.int
    subst this
    exact call_min2 hc pins s σ H _ us Q I r ⟨_, _, rfl, q.sh (.int _)⟩
  · obtain ⟨v, rfl, h⟩ := one hd
    obtain ⟨a, ys, rfl, h1, ha⟩ := h.list
    rename_i ds'
    cases e : intsOf ds' with
    | none => rw [e] at ev; cases ev
    | some l =>
      rw [e] at ev
      cases l with
      | nil => cases ev
      | cons x l =>
        cases ev
        have := rpA_list_ints e ha
        subst this
        obtain ⟨m1, m2, m3⟩ := minI_mem l x
        refine cr_min hc pins s σ H _ us Q I r ⟨a, x :: l, rfl, .inl h1, by simp, fun m hm hle => ?_⟩
        have : m = minI x l := by
          have h1 : m ≤ minI x l := hle _ (by rcases m1 with z | z <;> simp [z])
          have h2 : minI x l ≤ m := by rcases List.mem_cons.mp hm with rfl | z; exact m2; exact m3 m z
          omega
        rw [this]
        exact q.sh (.int _)
  · cases ev
theorem call_maxP (hc : X.calm = true) : CallR X (.builtin "max") (rBI X.K .max) := by
  intro pins s σ H xs us Q I r ⟨P, ds, rr, hP, hd, ev, q⟩
  unfold evBI at ev
  split at ev <;> first | (rename_i z1; cases z1) | skip
  · cases ev
    obtain ⟨v, u, rfl, h, h'⟩ := two hd
    have := h.int
    subst this
    have := h'.int
    subst this
    exact call_max2 hc pins s σ H _ us Q I r ⟨_, _, rfl, q.sh (.int _)⟩
  · obtain ⟨v, rfl, h⟩ := one hd
    obtain ⟨a, ys, rfl, h1, ha⟩ := h.list
    rename_i ds'
    cases e : intsOf ds' with
    | none => rw [e] at ev; cases ev
    | some l =>
      rw [e] at ev
      cases l with
      | nil => cases ev
      | cons x l =>
        cases ev
        have := rpA_list_ints e ha
        subst this
        obtain ⟨m1, m2, m3⟩ := maxI_mem l x
        refine cr_max hc pins s σ H _ us Q I r ⟨a, x :: l, rfl, .inl h1, by simp, fun m hm hle => ?_⟩
        have : m = maxI x l := by
          have h1 : maxI x l ≤ m := hle _ (by rcases m1 with z | z <;> simp [z])
          have h2 : m ≤ maxI x l := by rcases List.mem_cons.mp hm with rfl | z; exact m2; exact m3 m z
          omega
        rw [this]
        exact q.sh (.int _)
  · cases ev
theorem call_sumP (hc : X.calm = true) : CallR X (.builtin "sum") (rBI X.K .sum) := by
  intro pins s σ H xs us Q I r ⟨P, ds, rr, hP, hd, ev, q⟩
  unfold evBI at ev
  split at ev <;> first | (rename_i z1; cases z1) | skip
  · obtain ⟨v, rfl, h⟩ := one hd
    obtain ⟨a, ys, rfl, h1, ha⟩ := h.list
    rename_i ds'
    cases e : intsOf ds' with
    | none => rw [e] at ev; cases ev
    | some l =>
      rw [e] at ev
      cases ev
      have := rpA_list_ints e ha
      subst this
      exact cr_sum hc pins s σ H _ us Q I r ⟨a, l, rfl, .inl h1, q.sh (.int _)⟩
  · cases ev
theorem call_listP : CallR X (.type "list") (rBI X.K .list) := by
  intro pins s σ H xs us Q I r ⟨P, ds, rr, hP, hd, ev, q⟩
  unfold evBI at ev
  split at ev <;> first | (rename_i z1; cases z1) | skip
  · cases ev
    obtain ⟨v, rfl, h⟩ := one hd
    obtain ⟨a, ys, rfl, h1, ha⟩ := h.list
    exact call_list_of pins s σ H _ us Q I r ⟨a, ys, rfl, .inl (.inl h1), fun p hp => q.new hP ha p hp⟩
  · cases ev
    obtain ⟨v, rfl, h⟩ := one hd
    obtain ⟨a, ys, rfl, h1, ha⟩ := h.tuple
    exact call_list_of pins s σ H _ us Q I r ⟨a, ys, rfl, .inr h1, fun p hp => q.new hP ha p hp⟩
  · cases ev
theorem call_tupleP : CallR X (.type "tuple") (rBI X.K .tuple) := by
  intro pins s σ H xs us Q I r ⟨P, ds, rr, hP, hd, ev, q⟩
  unfold evBI at ev
  split at ev <;> first | (rename_i z1; cases z1) | skip
  · cases ev
    obtain ⟨v, rfl, h⟩ := one hd
    obtain ⟨a, ys, rfl, h1, ha⟩ := h.list
    exact call_tuple_of pins s σ H _ us Q I r ⟨a, ys, rfl, .inl ⟨.inl h1, fun p hp => q.newT hP ha p hp⟩⟩
  · cases ev
    obtain ⟨v, rfl, h⟩ := one hd
    rcases h with h | ⟨a, xs, ds, e1, e2, e3, h⟩
    · obtain ⟨a, ys, rfl, h1, ha⟩ := (RpB.tuple (.inl h))
      exact call_tuple_of pins s σ H _ us Q I r ⟨a, ys, rfl, .inr ⟨h1, q.sh h⟩⟩
    · cases e2
  · cases ev
/-- isinstance(x, T) -/
def rIs (K : PySem.W.Frag) (T : String) (f : PyData → Bool) : List V → Hp → VK → Prop := fun vs H Q => ∃ (P : Addr → Prop) (x : V) (d : PyData), vs = [x, .ty T] ∧ RpB K H P x d ∧ Q (.bl (f d)) H
theorem call_isIntP : CallR X (.builtin "isinstance") (rIs X.K "int" PyData.isInt) := by
  intro pins s σ H xs us Q I r ⟨P, x, d, e, hd, q⟩
  subst e
  obtain ⟨u1, u2, rfl, r1, r2⟩ := vals2 r
  cases r2
  obtain ⟨as, rd⟩ := Dp.reads I d x u1 hd.dp r1
  exact PySem.W.isinstance_int_data rd fun tk _ => ⟨.bl _, H, I.tok tk, rfl, q⟩
theorem call_isBoolP : CallR X (.builtin "isinstance") (rIs X.K "bool" PyData.isBool) := by
  intro pins s σ H xs us Q I r ⟨P, x, d, e, hd, q⟩
  subst e
  obtain ⟨u1, u2, rfl, r1, r2⟩ := vals2 r
  cases r2
  obtain ⟨as, rd⟩ := Dp.reads I d x u1 hd.dp r1
  exact PySem.W.isinstance_bool_data rd fun tk _ => ⟨.bl _, H, I.tok tk, rfl, q⟩
theorem call_isListP : CallR X (.builtin "isinstance") (rIs X.K "list" PyData.isList) := by
  intro pins s σ H xs us Q I r ⟨P, x, d, e, hd, q⟩
  subst e
  obtain ⟨u1, u2, rfl, r1, r2⟩ := vals2 r
  cases r2
  obtain ⟨as, rd⟩ := Dp.reads I d x u1 hd.dp r1
  exact PySem.W.isinstance_list_data rd fun tk _ => ⟨.bl _, H, I.tok tk, rfl, q⟩
theorem call_isTupleP : CallR X (.builtin "isinstance") (rIs X.K "tuple" PyData.isTuple) := by
  intro pins s σ H xs us Q I r ⟨P, x, d, e, hd, q⟩
  subst e
  obtain ⟨u1, u2, rfl, r1, r2⟩ := vals2 r
  cases r2
  obtain ⟨as, rd⟩ := Dp.reads I d x u1 hd.dp r1
  exact PySem.W.isinstance_tuple_data rd fun tk _ => ⟨.bl _, H, I.tok tk, rfl, q⟩
theorem call_isStrP : CallR X (.builtin "isinstance") (rIs X.K "str" PyData.isStr) := by
  intro pins s σ H xs us Q I r ⟨P, x, d, e, hd, q⟩
  subst e
  obtain ⟨u1, u2, rfl, r1, r2⟩ := vals2 r
  cases r2
  obtain ⟨as, rd⟩ := Dp.reads I d x u1 hd.dp r1
  exact PySem.W.isinstance_str_data rd fun tk _ => ⟨.bl _, H, I.tok tk, rfl, q⟩
/-- sorted: ints, or data of one kind -/
theorem each_of {H : Hp} {P : Addr → Prop} : ∀ {xs : List V} {us : List Value} {ds : List PyData}, Vals xs us → RpA X.K H P xs ds → PySem.W.EachIs (fun (u : Value) (d : PyData) => ∃ x, RelV x u ∧ Rp X.K H P x d) us ds
  | _, _, _, .nil, .nil => .nil
  | _, _, _, .cons r t, .cons h t' => .cons ⟨_, r, h⟩ (each_of t t')
theorem each_back {H : Hp} {P : Addr → Prop} : ∀ {us : List Value} {ds : List PyData}, PySem.W.EachIs (fun (u : Value) (d : PyData) => ∃ x, RelV x u ∧ Rp X.K H P x d) us ds → ∃ xs, Vals xs us ∧ RpA X.K H P xs ds
  | _, _, .nil => ⟨[], .nil, .nil⟩
  | _, _, .cons ⟨x, r, h⟩ t => let ⟨xs, r', h'⟩ := each_back t; ⟨x :: xs, .cons r r', .cons h h'⟩
theorem sdok_of {ds : List PyData} (h : sdok ds = true) : PySem.W.AllAlike (ds.map fun d => d) ∧ PySem.W.Sortable (ds.map fun d => d) ∧ PyData.depthAll ds ≤ 50 := by
  unfold sdok at h
  rw [Bool.and_eq_true, Bool.and_eq_true] at h
  obtain ⟨⟨h1, h2⟩, h3⟩ := h
  have e : (ds.map fun d => d) = ds := List.map_id' ds
  rw [e]
  refine ⟨fun d hd d' hd' => ?_, ?_, Nat.le_of_ble_eq_true h3⟩
  · exact List.all_eq_true.mp (List.all_eq_true.mp h1 d hd) d' hd'
  · rw [Bool.or_eq_true] at h2
    rcases h2 with h2 | h2
    · refine .inl fun d hd => ?_
      have := List.all_eq_true.mp h2 d hd
      unfold tupOk at this
      split at this
      · exact ⟨_, _, rfl⟩
      · cases this
    · refine .inr fun d hd => ?_
      have := List.all_eq_true.mp h2 d hd
      constructor
      · intro z; subst z; cases this
      · intro xs z; subst z; cases this
theorem depth_le_all : ∀ {ds : List PyData} {d : PyData}, d ∈ ds → d.depth ≤ PyData.depthAll ds
  | x :: xs, d, h => by
    rw [PyData.depthAll]
    rcases List.mem_cons.mp h with rfl | h
    · exact Nat.le_max_left _ _
    · exact Nat.le_trans (depth_le_all h) (Nat.le_max_right _ _)
theorem call_sortedP (hu : X.A.units + 64 < cLine) : CallR X (.builtin "sorted") (rBI X.K .sorted) := by
  intro pins s σ H xs us Q I r ⟨P, ds, rr, hP, hd, ev, q⟩
  unfold evBI at ev
  split at ev <;> first | (rename_i z1; cases z1) | skip
  · obtain ⟨v, rfl, h⟩ := one hd
    obtain ⟨a, ys, rfl, h1, ha⟩ := h.list
    rename_i ds'
    split at ev
    · rename_i l e
      cases ev
      have := rpA_list_ints e ha
      subst this
      refine cr_sortedI pins s σ H _ us Q I r ⟨a, l, rfl, .inl h1, fun ns' p hp hs hn => ?_⟩
      have e1 : ns' = sortI l := PySem.W.ksm_same (hp.trans (sortI_perm l).symm) hs (sortI_pw l)
      rw [e1]
      exact q.new hP rpA_ints p hn
    · split at ev
      · rename_i hs
        cases ev
        obtain ⟨k1, k2, k3⟩ := sdok_of hs
        obtain ⟨its, rv, hl, hz⟩ := I.list (.inl h1)
        rw [Vals.ref1 r]
        have e1 := each_of (X := X) rv ha
        have e2 : PySem.W.EachIs (fun (u : Value) (d : PyData) => ∃ as, Reads s.heap u d as) its ds' := e1.mono fun u d ⟨x, rx, hx⟩ => Dp.reads I d x u (Rp.dp d x hx) rx
        refine PySem.W.sorted_data (enc := fun d => d) hl.isList e1 e2 k1 k2 (by rw [← ha.length]; exact hz) (fun b hb => ?_) fun out hlen he => ?_
        · have := depth_le_all hb
          omega
        · obtain ⟨zs, hz1, hz2⟩ := each_back he
          obtain ⟨ep, he'⟩ := PyProof.Rows.sortedAll_at s.heap its out.toArray
          have hn : H (s.heap.objs.size + 1) = none := I.hok.fresh (Nat.le_succ _)
          have hlen' : zs.length ≤ sizeLine := by rw [hz1.length, hlen, ← ha.length]; exact hz
          exact ⟨.ref _, upd H (s.heap.objs.size + 1) (.lst zs), I.laid (t' := s.toks) (fun _ _ => PyProof.Rows.sortedAll_old) (Nat.le_succ _) ⟨hlen', out, ep, hz1, he'⟩, rfl, q.new hP hz2 _ hn⟩
      · cases ev
  · cases ev
/-- xs.index(x) -/
theorem idxD_some {x : PyData} : ∀ {ds : List PyData} {n k : Nat}, idxD x ds n = some k → ∃ j, k = n + j ∧ ∃ z, ds[j]? = some z ∧ PyData.eqv z x = true ∧ ∀ (m : Nat) z', m < j → ds[m]? = some z' → PyData.eqv z' x = false
  | [], n, k, h => by cases h
  | y :: ys, n, k, h => by
    unfold idxD at h
    split at h
    · rename_i hc
      cases h
      exact ⟨0, rfl, y, rfl, hc, fun m z' hm => absurd hm (by omega)⟩
    · rename_i hc
      obtain ⟨j, e, z, h1, h2, h3⟩ := idxD_some h
      refine ⟨j + 1, by omega, z, by simpa using h1, h2, fun m z' hm hz' => ?_⟩
      cases m with
      | zero => simp at hz'; subst hz'; simpa using hc
      | succ m => exact h3 m z' (by omega) (by simpa using hz')
theorem mt_indexP (hu : X.A.units + 65 < cLine) : MtR X "list.index" (fun x xs H Q => rBI X.K .index (x :: xs) H Q) := by
  intro pins s σ H x xs v us Q I rx rxs ⟨P, ds, rr, hP, hd, ev, q⟩
  unfold evBI at ev
  split at ev <;> first | (rename_i z1; cases z1) | skip
  · rename_i es d
    split at ev
    · rename_i hc
      rw [Bool.and_eq_true] at hc
      obtain ⟨o1, o2⟩ := hc
      obtain ⟨p1, n1⟩ := dok_plain o1
      obtain ⟨p2, n2⟩ := dok_plain o2
      have p3 : PyData.plainAll es = true := by simpa [PyData.plain] using p2
      cases e : idxD d es 0 with
      | none => rw [e] at ev; cases ev
      | some k =>
        rw [e] at ev
        cases ev
        obtain ⟨j, ej, z, hz, hzj, hno⟩ := idxD_some e
        obtain rfl : k = j := by omega
        cases hd with
        | cons hd1 hd2 =>
          obtain ⟨y, rfl, hy⟩ := one hd2
          obtain ⟨a, ys, rfl, h1, ha⟩ := hd1.list
          cases rx
          obtain ⟨uy, rfl, ry⟩ := rxs.one
          obtain ⟨bs, r1⟩ := Dp.reads I d y uy hy.dp ry
          obtain ⟨its, rv, ⟨⟨cls, dd, data, sls⟩, n, ho, hc, hdn, hdt⟩, hlen⟩ := I.list (.inl h1)
          simp only at hc hdt
          subst hc hdt
          obtain ⟨as, h4⟩ := Dp.readsAll I es _ its (RpA.dp es _ ha) rv
          have hn : its.length = es.length := SeqAt.ReadsAll.length es its as h4
          have hmap : its.map (SeqAt.readOf s.heap) = es := SeqAt.readsAll_map_plain es its as p3 h4
          have hvl := rv.length
          have hsl := sizeLine_eq
          obtain ⟨hjd, _⟩ := List.getElem?_eq_some_iff.mp hz
          have hjl : k < its.length := by omega
          have hj : k < its.toArray.size := by simpa using hjl
          have at_ : ∀ (m : Nat) (hm : m < its.toArray.size) (z' : PyData), es[m]? = some z' → SeqAt.readOf s.heap its.toArray[m] = z' := by
            intro m hm z' hz'
            have hml : m < its.length := by simpa using hm
            rw [← hmap, List.getElem?_map, List.getElem?_eq_getElem hml] at hz'
            have e1 : SeqAt.readOf s.heap its[m] = z' := Option.some.inj (show some (SeqAt.readOf s.heap its[m]) = some z' from hz')
            simpa using e1
          have hm : min (PyData.depthAll es) d.depth ≤ 50 := Nat.le_trans (Nat.min_le_right _ _) n1
          refine call_meets PySem.F.slot_list_index ⟨_, ho, rfl⟩ PySem.F.entry_list_index (PySem.F.args_list_index_2 _ _)
            (SeqAt.list_indexAt a its.toArray n dd sls uy (fun u => PyData.eqv (SeqAt.readOf s.heap u) d) k hj (by omega) ?_ ?_) ⟨ho, SeqAt.items_plain (vs := its.toArray) (show ReadsAll s.heap its.toArray.toList es as from h4) r1 p3 p1 (by omega), ?_⟩
          · show PyData.eqv (SeqAt.readOf s.heap its.toArray[k]) d = true
            rw [at_ k hj z hz]
            exact hzj
          · intro m hm hmj
            have hmd : m < es.length := by omega
            have hz' : es[m]? = some es[m] := List.getElem?_eq_getElem hmd
            show PyData.eqv (SeqAt.readOf s.heap its.toArray[m]) d = false
            rw [at_ m hm _ hz']
            exact hno m _ hmj hz'
          · exact ⟨.int (k : Nat), H, I.tok _, ⟨_, rfl⟩, q.sh (.int _)⟩
    · cases ev
  · cases ev
end
end PV

set_option Elab.async false
set_option linter.all false
set_option maxRecDepth 100000
set_option maxHeartbeats 4000000
/-! PV4s: set of a list of ints; sorted(set(..)). -/
namespace PV
open PySem PySem.Spec PyProof.Rows L2

section
variable {P : Program} {w : World} {A : Around} {E : Value → Shared → Prop} {s : Shared}
theorem call_set_lstP {l : Addr} {arr : Array Value} (ns : List Int) {Q : Value → Shared → Prop} (hh : A.handled = none) (hl : s.heap.IsList l arr) (hia : IntsAre arr.toList ns) (hb : ns.length + 1 < scanBound)
    (h : ∀ (hq : Heap) (tk c : Nat), SetR w hq s.heap.objs.size (fun j => decide (j ∈ ns)) c → c ≤ ns.length → (∀ b o, s.heap.get? b = some o → hq.get? b = some o) → Q (.ref s.heap.objs.size) { s with heap := hq, toks := tk }) :
    wpAny (model P w) A (call (.type "set") [.ref l]) Q E s := by
  have hasz : arr.size = ns.length := by
    have q := IntsAre.length hia
    rw [Array.length_toList] at q
    exact q
  obtain ⟨c, tl0, kmro⟩ := F.called_set.mro
  have kmade := F.called_set.made
  have ksub := F.called_set.sub
  refine wpAny_call (codeAny_of_tree ?_)
  show wpAny _ _ (callAny (.type "set") _) _ _ _
  refine wpAny_pure ⟨Code.quiet_builtin _ (by decide +kernel), codeAny_builtin F.entry_type_call ?_⟩
  rw [Around.under_plain (weight_type_call_type "set" [.ref l] []) rfl]
  have f1 := F.called_set.notType
  have f2 := F.called_set.canCreate
  have fct := F.typeCall_set_1 (.ref l)
  repeat (any_goals (first | assumption | wp_step))

  refine codeAny_mono (code_set_led1 (.ref l) (E := E) (Q₁ := fun ob s₁ => ob = .ref s.heap.objs.size ∧ s₁ = { s with heap := s.heap.push { cls := .type "set", dict := none, data := .set #[] 0 (.fresh 0 0 (!w.params.followText "set-order")) } }) ⟨rfl, rfl⟩) fun r s₁ rr => ?_
  cases r with
  | error e => exact rr
  | ok fw =>
    cases fw with
    | ret ob =>
      obtain ⟨rfl, rfl⟩ := rr
      have kS : (s.heap.push { cls := .type "set", dict := none, data := .set #[] 0 (.fresh 0 0 (!w.params.followText "set-order")) }).get? s.heap.objs.size = some { cls := .type "set", dict := none, data := .set #[] 0 (.fresh 0 0 (!w.params.followText "set-order")) } := Heap.get?_push_size _ rfl
      have kT : Shared.TypeIs { s with heap := s.heap.push { cls := .type "set", dict := none, data := .set #[] 0 (.fresh 0 0 (!w.params.followText "set-order")) } } (.ref s.heap.objs.size) "set" := ⟨_, kS, rfl⟩
      have kli := F.called_set.init.lookup
      have kbi := F.called_set.init.bind (.ref s.heap.objs.size)
      repeat (any_goals (first | assumption | wp_step))

      refine codeAny_mono (codeAny_call_builtin (R := wants (fun r s₂ => r = .none ∧ ∃ hq tk c, s₂ = { s with heap := hq, toks := tk } ∧ SetR w hq s.heap.objs.size (fun j => decide (j ∈ ns)) c ∧ c ≤ ns.length ∧
          (∀ b o, s.heap.get? b = some o → hq.get? b = some o)) E) F.called_set.init.plain F.entry_set_init (check_set_init_1 kT ?_)) fun r₂ s₂ hr₂ => ?_
      · obtain ⟨ob0, hob, kcl, kn, kdl⟩ := hl
        obtain ⟨kc, kd, kx, ksl⟩ := ob0
        simp only at kcl kdl
        subst kcl; subst kdl
        have hob1 : (s.heap.push { cls := .type "set", dict := none, data := .set #[] 0 (.fresh 0 0 (!w.params.followText "set-order")) }).get? l = some { cls := .type "list", dict := kd, data := .seq arr kn, slots := ksl } := Heap.get?_push_of_some _ hob
        have q1 := F.sub_list_set
        have q2 := F.sub_list_frozenset
        have q3 : (Value.type "list" == Value.type "dict") = false := by decide
        have q4 : (s.heap.push { cls := .type "set", dict := none, data := .set #[] 0 (.fresh 0 0 (!w.params.followText "set-order")) }).IsList l arr := ⟨_, hob1, rfl, kn, rfl⟩
        unfold Builtin.«set.__init__» noKeywords Builtin.Frozenset.updateFrom
        generalize hPI : pyIter = PI
        wp_walk
        subst hPI

        refine wpAny_pyIter_list q4 ?_
        refine wpAny_bind (wpAny_runValue ?_)
        have q5 : l < s.heap.objs.size := Heap.lt_size hob
        have q6 : A.in1.in1.in1.handled = none := by simp [hh]
        have q7 : (s.heap.push { cls := .type "set", dict := none, data := .set #[] 0 (.fresh 0 0 (!w.params.followText "set-order")) }).objs.size = s.heap.objs.size + 1 := Heap.size_push ..
        have q8 : l ≠ (s.heap.push { cls := .type "set", dict := none, data := .set #[] 0 (.fresh 0 0 (!w.params.followText "set-order")) }).objs.size := by
          rw [Heap.size_push]; exact Nat.ne_of_lt (Nat.lt_succ_of_lt q5)
        have q9 : s.heap.objs.size ∉ [(s.heap.push { cls := .type "set", dict := none, data := .set #[] 0 (.fresh 0 0 (!w.params.followText "set-order")) }).objs.size, l] := by
          rw [Heap.size_push]; simp only [List.mem_cons, List.mem_singleton, List.not_mem_nil, or_false, not_or]
          exact ⟨Nat.ne_of_lt (Nat.lt_succ_self _), Nat.ne_of_gt q5⟩
        have qv : ∀ (i : Nat) (v : Value), arr[i]? = some v → ∃ k t, ns[i]? = some k ∧ v = .int k t := fun i v hv => by
          have hi : i < ns.length := by rw [← hasz]; exact (Array.getElem?_eq_some_iff.mp hv).1
          obtain ⟨t, e⟩ := PyProof.Rows.IntsAre.int_at hia i v (by rw [Array.getElem?_toList]; exact hv)
          refine ⟨ns[i], t, List.getElem?_eq_getElem hi, ?_⟩
          rw [e, List.getD_eq_getElem?_getD, List.getElem?_eq_getElem hi] <;> rfl
        refine set_update_ints ((Walks.list q6 _ l q8 arr).toS) s.heap.objs.size
          q9 ns hasz hb qv (arr.size - 0) 0 _ (by omega) (Nat.zero_le _)
          ⟨⟨_, Heap.get?_push_size _ rfl, rfl, rfl⟩, (q4.push _)⟩ ?hS0 ?hR
        case hS0 =>
          have kget : ((s.heap.push { cls := .type "set", dict := none, data := .set #[] 0 (.fresh 0 0 (!w.params.followText "set-order")) }).push { cls := .type "list_iterator", data := .fields #[.ref l, .int 0 0] }).get? s.heap.objs.size
              = some { cls := .type "set", dict := none, data := .set #[] 0 (.fresh 0 0 (!w.params.followText "set-order")) } := Heap.get?_push_of_some _ kS
          exact ⟨0, Nat.le_refl 0, setR_new_at kget⟩
        case hR =>
          intro s' c' km kc2 kS2
          obtain ⟨hq, g2, d', tk', os'⟩ := s'
          have e1 : g2 = s.gens := km.gens
          have e2 : d' = s.drawn := km.drawn
          have e3 : os' = s.os := km.os
          subst e1; subst e2; subst e3
          show wpAny _ _ _ _ _ _
          refine wpAny_pure ?_
          show wpAny _ _ (ret Value.none) _ _ _
          rw [hasz] at kc2
          refine wpAny_pure ⟨rfl, hq, tk', c', rfl, kS2, kc2, fun b o e => ?_⟩
          have b0 : b < s.heap.objs.size := Heap.lt_size e
          have b1 : b ≠ s.heap.objs.size := Nat.ne_of_lt b0
          have b2 : b ≠ (s.heap.push { cls := .type "set", dict := none, data := .set #[] 0 (.fresh 0 0 (!w.params.followText "set-order")) }).objs.size := by
            rw [Heap.size_push]; exact Nat.ne_of_lt (Nat.lt_succ_of_lt b0)
          exact km.heap b o (by simp only [List.mem_cons, List.mem_singleton, List.not_mem_nil, or_false, not_or]; exact ⟨b1, b2⟩) (Heap.get?_push_of_some _ (Heap.get?_push_of_some _ e))

      · cases r₂ with
        | error e => exact hr₂
        | ok fl₂ =>
          cases fl₂ with
          | ret r =>
            obtain ⟨rfl, hq, tk, c', rfl, kS2, kc2, hk'⟩ := hr₂
            repeat (any_goals (first | assumption | wp_step))
            exact h _ _ _ kS2 kc2 hk'
          | _ => exact hr₂.elim
    | _ => exact rr.elim
end

theorem dedupI_mem {x : Int} : ∀ {l : List Int}, x ∈ dedupI l ↔ x ∈ l
  | [] => Iff.rfl
  | y :: ys => by
    unfold dedupI
    by_cases h : ys.contains y = true
    · rw [if_pos h, dedupI_mem, List.mem_cons]
      refine ⟨fun z => .inr z, fun z => z.elim (fun e => ?_) fun z => z⟩
      rw [e]; exact List.contains_iff_mem.mp h
    · rw [if_neg h, List.mem_cons, List.mem_cons, dedupI_mem]
theorem dedupI_nodup : ∀ {l : List Int}, (dedupI l).Nodup
  | [] => by simp [dedupI]
  | y :: ys => by
    unfold dedupI
    by_cases h : ys.contains y = true
    · rw [if_pos h]; exact dedupI_nodup
    · rw [if_neg h, List.nodup_cons]
      exact ⟨fun z => h (List.contains_iff_mem.mpr (dedupI_mem.mp z)), dedupI_nodup⟩
theorem setI_eq {l ns : List Int} (h1 : ns.Pairwise (· < ·)) (h2 : ∀ k : Int, k ∈ ns ↔ k ∈ l) : ns = sortI (dedupI l) := by
  refine PySem.W.ksm_same ?_ (h1.imp fun h => Int.le_of_lt h) (sortI_pw _)
  refine List.Perm.trans ?_ (sortI_perm _).symm
  refine (List.perm_ext_iff_of_nodup (h1.imp fun h => Int.ne_of_lt h) dedupI_nodup).mpr fun k => ?_
  rw [h2, dedupI_mem]
def rSetP (w : World) (K : PySem.W.Frag) : List V → Hp → VK → Prop := fun vs H Q => ∃ (Pz : Addr → Prop) (ds : List PyData) (ns : List Int), RpBs K H Pz vs [.list ds] ∧ intsOf ds = some ns ∧ ns.length < 64 ∧ ∀ p c, H p = none → c < 64 → Q (.ref p) (upd H p (SetO w p (fun j => decide (j ∈ ns)) c))
section
variable {X : Cx}
theorem call_setP (hc : X.calm = true) : CallR X (.type "set") (rSetP X.w X.K) := by
  intro pins s σ H xs us Q I r ⟨Pz, ds, ns, hd, e, hl, q⟩
  obtain ⟨v, rfl, h⟩ := one hd
  obtain ⟨a, ys, rfl, h1, ha⟩ := h.list
  have := rpA_list_ints e ha
  subst this
  obtain ⟨its, rv, hls, hz⟩ := I.list (.inl h1)
  rw [Vals.ref1 r]
  refine call_set_lstP ns (I.ok.hd hc) hls.isList (ints_of_vals rv) (by unfold scanBound; omega) fun h' tk c R1 hcn k => ?_
  exact ⟨.ref _, upd H s.heap.objs.size (SetO X.w s.heap.objs.size (fun j => decide (j ∈ ns)) c), I.laid (t' := tk) k (Nat.le_refl _) (setO_new R1), rfl, q _ c (I.hok.fresh (Nat.le_refl _)) (Nat.lt_of_le_of_lt hcn hl)⟩
end
end PV

set_option Elab.async false
set_option linter.all false
set_option maxRecDepth 100000
set_option maxHeartbeats 4000000
/-! PVX: reversed sequences, list(range(..)), repr of plain data, list.count. -/
namespace PV
open PySem PySem.Spec PyProof.Rows L2
section
variable {prog : Program} {w : World} {A : Around} {E : Value → Shared → Prop} {s : Shared}
theorem back_bounds (n : Nat) : Builtin.Slice.sliceAdjust none none (-1) (n : Int) = ((n : Int) - 1, -1) := by
  unfold Builtin.Slice.sliceAdjust
  simp
theorem back_places (n : Nat) : Builtin.Slice.slicePlaces ((n : Int) - 1) (-1) (-1) = n := by
  unfold Builtin.Slice.slicePlaces
  have h1 : ¬ ((-1 : Int) > 0) := by omega
  simp only [h1, if_false]
  have h2 : -(-1 : Int) = 1 := by omega
  rw [h2, Int.ediv_one]
  split <;> omega
theorem back_applied {sl : Addr} {t : Tok} {n : Nat} {Q : Int × Int × Nat → Shared → Prop} (hs : s.heap.IsSliceOf sl .none .none (.int (-1) t)) (h : Q ((n : Int) - 1, -1, n) s) :
    wpAny (model prog w) A (Builtin.Slice.sliceApplied (.ref sl) (pure (n : Int))) Q E s := by
  obtain ⟨os, hos, hcs, hds⟩ := id hs
  unfold Builtin.Slice.sliceApplied Builtin.Slice.sliceFields
  refine wpAny_bind (wpAny_bind (wpAny_field hos hds (x := Value.none) rfl (wpAny_bind (wpAny_field hos hds (x := Value.none) rfl (wpAny_bind (wpAny_field hos hds (x := Value.int (-1) t) rfl
    (wpAny_pure ?_)))))))
  refine wpAny_bind (slicePart_int ?_)
  show wpAny _ _ (if ((-1 : Int) == 0) = true then _ else _) _ _ s
  rw [if_neg (by decide)]
  refine wpAny_bind (slicePart_none (wpAny_bind (slicePart_none (wpAny_bind (wpAny_pure ?_)))))
  show wpAny _ _ (match Builtin.Slice.sliceAdjust none none (-1) (n : Int) with | (lo, hi) => pure (lo, (-1 : Int), Builtin.Slice.slicePlaces lo hi (-1))) _ _ s
  rw [back_bounds]
  show wpAny _ _ (pure ((n : Int) - 1, (-1 : Int), Builtin.Slice.slicePlaces ((n : Int) - 1) (-1) (-1))) _ _ s
  rw [back_places]
  exact wpAny_pure h
theorem fm_congr {α β : Type} {f g : α → Option β} : ∀ {l : List α}, (∀ x ∈ l, f x = g x) → l.filterMap f = l.filterMap g
  | [], _ => rfl
  | x :: l, h => by rw [List.filterMap_cons, List.filterMap_cons, h x List.mem_cons_self, fm_congr fun y hy => h y (List.mem_cons_of_mem _ hy)]
theorem back_pick (xs : List Value) : ((List.range xs.length).filterMap fun (m : Nat) => xs.toArray[((xs.length : Int) - 1 + (m : Int) * (-1)).toNat]?) = xs.reverse := by
  apply List.ext_getElem?
  intro i
  have e : ((List.range xs.length).filterMap fun (m : Nat) => xs.toArray[((xs.length : Int) - 1 + (m : Int) * (-1)).toNat]?) = (List.range xs.length).map fun m => (xs[xs.length - 1 - m]?).getD .none := by
    rw [← List.filterMap_eq_map]
    refine fm_congr fun m hm => ?_
    rw [List.mem_range] at hm
    have e1 : ((xs.length : Int) - 1 + (m : Int) * (-1)).toNat = xs.length - 1 - m := by omega
    rw [e1]
    have h2 : xs.length - 1 - m < xs.length := by omega
    simp [List.getElem?_eq_getElem h2]
  rw [e, List.getElem?_map]
  by_cases hi : i < xs.length
  · rw [List.getElem?_range hi, List.getElem?_reverse hi]
    have h2 : xs.length - 1 - i < xs.length := by omega
    simp [List.getElem?_eq_getElem h2]
  · rw [List.getElem?_eq_none (by simpa using hi), List.getElem?_eq_none (by simpa using hi)]
    rfl
theorem back_tuple {t sl : Addr} {xs : List Value} {k : Tok} {Q : Value → Shared → Prop} (ht : IsTup s.heap t xs.toArray) (hs : s.heap.IsSliceOf sl .none .none (.int (-1) k))
    (h : Q (.ref s.heap.objs.size) { s with heap := s.heap.push { cls := .type "tuple", data := .seq xs.reverse.toArray } }) (hsz : xs.length ≤ sizeLine) : wpAny (model prog w) A (getItem (.ref t) (.ref sl)) Q E s := by
  have hz : sizeOk (.seq xs.reverse.toArray) := by
    show xs.reverse.toArray.size ≤ sizeLine
    rw [List.size_toArray, List.length_reverse]
    exact hsz
  obtain ⟨os, hos, hcs, hds⟩ := id hs
  have hTs : s.TypeIs (.ref sl) "slice" := ⟨os, hos, hcs⟩
  unfold getItem
  try with_reducible refine wpAny_holding ?_
  first | refine wpAny_bind (wpAny_pure ?_) | skip
  refine wpAny_bind (wpAny_sequenceKey ht.typeIs (by decide) ?_)
  refine wpAny_bind (wpAny_callSpecial?_slot (name := Str.ofString "__getitem__") ht.typeIs PyProof.Rows.slot_tuple_getitem (wpAny_call_entry PyProof.Rows.slot_tuple_getitem ht.typeIs entry_tuple_getitem ?_ (args_tuple_getitem _ _)))
  show wpAny _ _ (Builtin.Tuple.tupleItemsOf (.ref t) >>= _) _ _ s
  refine wpAny_bind (tupleItemsOf_ ht (wpAny_bind (wpAny_typeOf hTs ?_)))
  rw [if_pos (by decide)]
  have hn : xs.toArray.size = xs.length := List.size_toArray
  refine wpAny_bind (m := Builtin.Slice.sliceApplied (.ref sl) (pure ((xs.toArray.size : Nat) : Int))) ?_
  rw [hn]
  refine back_applied hs ?_
  show wpAny _ _ (if (((xs.length : Int) - 1) == 0 && (-1 : Int) == 1 && xs.length == xs.toArray.size) = true then _ else _) _ _ s
  have hno : ¬ ((((xs.length : Int) - 1) == 0 && (-1 : Int) == 1 && xs.length == xs.toArray.size) = true) := by simp
  rw [if_neg hno, back_pick]
  first
    | exact wpAny_bind (m := Builtin.Tuple.tupleExact _) (wpAny_newObj_type (wpAny_pure ⟨_, rfl, wpAny_pure h⟩) hz)
    | exact wpAny_bind (m := Builtin.Tuple.tupleExact _) (wpAny_newObj_type (wpAny_bind (wpAny_pure (wpAny_pure ⟨_, rfl, wpAny_pure h⟩))) hz)
    | exact wpAny_bind (wpAny_bind (m := Builtin.Tuple.tupleExact _) (wpAny_newObj_type (wpAny_pure (wpAny_pure ⟨_, rfl, wpAny_pure h⟩)) hz))
    | exact wpAny_bind (wpAny_bind (m := Builtin.Tuple.tupleExact _) (wpAny_newObj_type (wpAny_pure ⟨_, rfl, wpAny_pure h⟩) hz))
end
def tRevB (K : PySem.W.Frag) (te : TE) : TE := fun σ H Q => te σ H fun x H1 => ∃ a xs, x = .ref a ∧ ((SqL K H1 a xs ∧ ∀ p, H1 p = none → Q (.ref p) (upd H1 p (.lst xs.reverse))) ∨ (SqT K H1 a xs ∧ ∀ p, H1 p = none → Q (.ref p) (upd H1 p (.tup xs.reverse))))
theorem pe_revB {X : Cx} {e : Expr} {te : TE} {k : Nat} {p1 p2 p3 pos : Pos} (he : PE X e te) : PE X (.Subscript e (.Slice none none (some (.UnaryOp .USub (.Constant (.int 1) k p1) p2)) p3) pos) (tRevB X.K te) := by
  refine ⟨fun pins s σ H Q I h => Subscript_ (thn (he.run pins s σ H _ I h) fun v s1 ⟨x, H1, I1, r1, a, xs, ex, q⟩ => ?_)⟩
  subst ex
  cases r1
  have hst : PO X (some (.UnaryOp .USub (.Constant (.int 1) k p1) p2)) (tPart (tUn (rU fun i => .int (-i)) (tC (.int 1)))) := po_some (pe_un un_neg pe_int)
  refine wpAny_Slice (thn (po_none.run pins s1 σ H1 (fun o H2 => o = none ∧ H2 = H1) I1 ⟨rfl, rfl⟩) fun vl s2 ⟨l, H2, I2, pl, el, e2⟩ => thn (po_none.run pins s2 σ H2 (fun o H3 => o = none ∧ H3 = H2) I2 ⟨rfl, rfl⟩)
    fun vu s3 ⟨u, H3, I3, pu, eu, e3⟩ => thn (hst.run pins s3 σ H3 (fun o H4 => o = some (-1) ∧ H4 = H3) I3 ⟨1, rfl, -1, rfl, rfl, rfl⟩) fun vs s4 ⟨o, H4, I4, ps, eo, e4⟩ => ?_)
  subst el e2 eu e3 eo e4
  cases pl
  cases pu
  cases ps with
  | int i t =>
  have I5 : Inv X pins σ H4 { s4 with heap := s4.heap.push { cls := .type "slice", data := .fields #[Value.none, Value.none, Value.int (-1) t] } } := I4.kept (t' := s4.toks) fun b ob q => Heap.get?_push_of_some _ q
  show wpAny (model X.prog X.w) X.A (subscriptTail e (.Slice none none (some (.UnaryOp .USub (.Constant (.int 1) k p1) p2)) p3) (.ref a) (.ref s4.heap.objs.size)) (EP X pins σ Q) X.xe _
  rcases q with ⟨hx, q⟩ | ⟨hx, q⟩
  · obtain ⟨its, r, ht, hz⟩ := I5.list hx
    have hlen := r.length
    refine tail_any (ops := [.ref a, .ref s4.heap.objs.size]) ht.isList.typeIs (PySem.slot_list_getitem.lookup) ?_ (by with_unfolding_all rfl)
    refine wpAny_getItem_list_slice ht.isList (Heap.IsSliceOf.new _ Value.none Value.none (Value.int (-1) t)) .none .none (.int (-1) t) (by decide) ?_ (by rw [List.size_toArray]; omega)
    rw [PySem.W.krv_pick]
    refine ⟨.ref _, _, I5.laid (t' := s4.toks) (o := .lst xs.reverse) (fun b ob q => Heap.get?_push_of_some _ q) (Nat.le_refl _) ?_, rfl, q _ (I5.hok.fresh (Nat.le_refl _))⟩
    exact ⟨by rw [List.length_reverse]; exact hz, _, 0, r.reverse, Heap.get?_push_size _ rfl⟩
  · obtain ⟨its, r, ht, hz⟩ := I5.tuple hx
    have hlen := r.length
    refine tail_any (ops := [.ref a, .ref s4.heap.objs.size]) ht.typeIs (PyProof.Rows.slot_tuple_getitem.lookup) ?_ (by with_unfolding_all rfl)
    refine back_tuple (xs := its) ht (Heap.IsSliceOf.new _ Value.none Value.none (Value.int (-1) t)) ?_ (by omega)
    refine ⟨.ref _, _, I5.laid (t' := s4.toks) (o := .tup xs.reverse) (fun b ob q => Heap.get?_push_of_some _ q) (Nat.le_refl _) ?_, rfl, q _ (I5.hok.fresh (Nat.le_refl _))⟩
    exact ⟨by rw [List.length_reverse]; exact hz, _, r.reverse, IsTup.new _ _⟩
/-- no repr is under way -/
abbrev Still (A : Around) : Prop := A.guards = some []
section
variable {X : Cx}
theorem call_reprP (g : Still X.A) (hu : X.A.units + 64 < cLine) : CallR X (.builtin "repr") (rBI X.K .repr) := by
  intro pins s σ H xs us Q I r ⟨P, ds, rr, hP, hd, ev, q⟩
  rcases ds with _ | ⟨d, _ | ⟨e, l⟩⟩
  · exact absurd ev (by simp [evBI])
  · have ev : (if d.showable && !d.hasDict && Nat.ble d.depth 50 && lenOk (d.shown.length + 64) then some (false, PyData.str d.shown) else none) = some rr := ev
    split at ev
    · rename_i hc
      cases ev
      simp only [Bool.and_eq_true, Bool.not_eq_true'] at hc
      obtain ⟨⟨⟨c1, c2⟩, c3⟩, c4⟩ := hc
      have c3 := Nat.le_of_ble_eq_true c3
      have c4 := lenOk_le c4
      obtain ⟨x, rfl, hx⟩ := one hd
      obtain ⟨u, rfl, rx⟩ := r.one
      obtain ⟨as, rd⟩ := Dp.reads I d x u hx.dp rx
      have fin : ∀ (h' : Heap) (t : Tok) (tk : Nat), (∀ b o, s.heap.get? b = some o → h'.get? b = some o) → EP X pins σ Q (.str d.shown t) { s with heap := h', toks := tk } := fun h' t tk hk =>
        ⟨.str d.shown, H, I.kept hk, ⟨t, rfl⟩, q _ _ (Same.refl H) (.str _)⟩
      have seq : ∀ a, u = .ref a → wpAny (model X.prog X.w) X.A (call (.builtin "repr") [u]) (EP X pins σ Q) X.xe s := fun a e => by
        subst e
        exact repr_of_reads' rd c1 (fun z => absurd (c2.symm.trans z) Bool.false_ne_true) g (by omega) (fun b o e => e) (fun h' t tk hk => fin h' t tk hk) (by omega)
      cases rd with
      | none => exact PySem.P.repr_of_none (fin s.heap _ _ fun _ _ e => e)
      | bool b => exact PySem.P.repr_of_bool (fin s.heap _ _ fun _ _ e => e)
      | int i t => exact PySem.P.repr_of_int (by simpa [PyData.showable] using c1) (fin s.heap _ _ fun _ _ e => e)
      | str x t => exact PySem.P.repr_of_str (fin s.heap _ _ fun _ _ e => e) (by have : (reprText x).length + 64 ≤ sizeLine := c4; omega)
      | list => exact seq _ rfl
      | tuple => exact seq _ rfl
      | dict => exact seq _ rfl
    · cases ev
  · exact absurd ev (by simp [evBI])
theorem mt_countP (hu : X.A.units + 65 < cLine) : MtR X "list.count" (fun x xs H Q => rBI X.K .count (x :: xs) H Q) := by
  intro pins s σ H x xs v us Q I rx rxs ⟨P, ds, rr, hP, hd, ev, q⟩
  rcases ds with _ | ⟨d0, _ | ⟨d, _ | ⟨e, l⟩⟩⟩
  · exact absurd ev (by simp [evBI])
  · exact absurd ev (by simp [evBI])
  · obtain ⟨es, rfl⟩ : ∃ es, d0 = .list es := by
      cases d0 with
      | list es => exact ⟨es, rfl⟩
      | _ => exact absurd ev (by simp [evBI])
    have ev : (if dok d && dok (.list es) then some (false, PyData.int (es.countP fun y => PyData.eqv y d : Nat)) else none) = some rr := ev
    split at ev
    · rename_i hc
      rw [Bool.and_eq_true] at hc
      obtain ⟨o1, o2⟩ := hc
      obtain ⟨p1, n1⟩ := dok_plain o1
      obtain ⟨p2, n2⟩ := dok_plain o2
      have p3 : PyData.plainAll es = true := by simpa [PyData.plain] using p2
      cases ev
      cases hd with
      | cons hd1 hd2 =>
        obtain ⟨y, rfl, hy⟩ := one hd2
        obtain ⟨a, ys, rfl, h1, ha⟩ := hd1.list
        cases rx
        obtain ⟨uy, rfl, ry⟩ := rxs.one
        obtain ⟨bs, r1⟩ := Dp.reads I d y uy hy.dp ry
        obtain ⟨its, rv, ⟨⟨cls, dd, data, sls⟩, n, ho, hc, hdn, hdt⟩, hlen⟩ := I.list (.inl h1)
        simp only at hc hdt
        subst hc hdt
        obtain ⟨as, h4⟩ := Dp.readsAll I es _ its (RpA.dp es _ ha) rv
        have hmap : its.map (SeqAt.readOf s.heap) = es := SeqAt.readsAll_map_plain es its as p3 h4
        have hm : min (PyData.depthAll es) d.depth ≤ 50 := Nat.le_trans (Nat.min_le_right _ _) n1
        refine call_meets PySem.F.slot_list_count ⟨_, ho, rfl⟩ PySem.F.entry_list_count (PySem.F.args_list_count_2 _ _)
          (SeqAt.list_countAt a its.toArray n dd sls uy (fun u => PyData.eqv (SeqAt.readOf s.heap u) d)) ⟨ho, SeqAt.items_plain (vs := its.toArray) (show ReadsAll s.heap its.toArray.toList es as from h4) r1 p3 p1 (by omega), ?_⟩
        have e1 : its.toArray.toList.countP (fun u => PyData.eqv (SeqAt.readOf s.heap u) d) = es.countP fun y => PyData.eqv y d := by
          rw [← hmap, List.countP_map]
          rfl
        rw [e1]
        exact ⟨.int _, H, I.tok _, ⟨_, rfl⟩, q.sh (.int _)⟩
    · cases ev
  · exact absurd ev (by cases d0 <;> simp [evBI])
end
end PV

set_option Elab.async false
set_option linter.all false
set_option maxRecDepth 100000
set_option maxHeartbeats 4000000
/-! PVG: promises of defs that are called where no repr is under way. -/
namespace PV
open PySem PySem.Spec PyProof.Rows L2


structure FnG (P : Program) (w : World) (K : PySem.W.Frag) (mg : Str → Option Value) (base : Heap) (k : Nat) (f : Addr) (fd : FuncData) (ps : List Str) (sp : Sp) : Prop where
  len : ∀ xs H Q E, sp xs H Q E → xs.length = ps.length
  run : ∀ (A : Around) (out : List Env) (s : Shared) (H : Hp) (args : Args) (us : List Value) (xs : List V) (Q : VK) (E : XK), Still A → Room k A → Env0 P w K mg base A out s H → BindsTo s fd args (ps.zip us) → Vals xs us → sp xs H Q E →
    codeAny (model P w) A (.call (.ref f) args) (CR CX0 out P w H s Q E) s
section
variable {P : Program} {w : World} {K : PySem.W.Frag} {mg : Str → Option Value} {base : Heap}
theorem FnG.mono {j k : Nat} {f : Addr} {fd : FuncData} {ps : List Str} {sp : Sp} (F : FnG P w K mg base j f fd ps sp) (h : j ≤ k) : FnG P w K mg base k f fd ps sp :=
  ⟨F.len, fun A out s H args us xs Q E g r => F.run A out s H args us xs Q E g (r.mono h)⟩
theorem FnG.of {k : Nat} {f : Addr} {fd : FuncData} {ps : List Str} {sp : Sp} (F : FnOk P w K mg base CX0 k f fd ps sp) : FnG P w K mg base k f fd ps sp :=
  ⟨F.len, fun A out s H args us xs Q E _ r => F.run A out s H args us xs Q E r⟩
theorem FnG.imp {k : Nat} {f : Addr} {fd : FuncData} {ps : List Str} {sp sp' : Sp} (F : FnG P w K mg base k f fd ps sp) (h : ∀ xs H Q E, sp' xs H Q E → sp xs H Q E) : FnG P w K mg base k f fd ps sp' :=
  ⟨fun xs H Q E q => F.len xs H Q E (h _ _ _ _ q), fun A out s H args us xs Q E g r e b v q => F.run A out s H args us xs Q E g r e b v (h _ _ _ _ q)⟩
/-- a def by its body -/
theorem fnG_of {x qual : Str} {st : Stmt} {f : Addr} {fd : FuncData} {N ps : List Str} {k : Nat} {sp : Sp} (F : Fun K x qual st f fd) (S : FnScope N ps (defScope st)) (len : ∀ xs H Q E, sp xs H Q E → xs.length = ps.length)
    (body : ∀ (cdv : Value) (A : Around) (out : List Env) (s : Shared) (H : Hp) (xs : List V) (Q : VK) (E : XK), Still (A.deeper (envOfC qual (defScope st) s.heap.objs.size f cdv)) → Room k (A.deeper (envOfC qual (defScope st) s.heap.objs.size f cdv)) → sp xs H Q E →
      ∃ t, PSs (cxOf CX0 P w K mg base N qual (defScope st) f cdv A out s H E).nox (defBody st) t ∧ t { nx := fun _ H' => Q .non H', rt := Q } (L2.start N xs) H) : FnG P w K mg base (k + 1) f fd ps sp := by
  obtain ⟨oc, od, kV, doc, pm, an, cdv, ct, osl, rfl, lk, hcd⟩ := F.ex
  refine ⟨len, fun A out s H args us xs Q E g hr e0 hb r hsp => ?_⟩
  have hlen := len _ _ _ _ hsp
  have inH : K.In s.heap := e0.mod.kin.keeps fun b o z => (e0.bs b o z).1
  have noLim : s.heap.NoLimit := e0.mod.nolimit.keeps fun b o z => (e0.bs b o z).1
  refine codeAny_call_function hr.depth (inH _ _ lk) rfl S.co S.gen rfl (PySem.W.codeRec_of inH hcd) (hb _ _ _ _ ?_)
  refine wpAny_newFunctionEnv_cells S.kind (fun p hp => ?_) fun env he s1 x => ?_
  · rcases S.par p.1 (List.of_mem_zip (a := p.1) (b := p.2) hp).1 with z | z
    · exact Or.inl z
    · exact Or.inr ⟨z, PySem.W.cellsFrom_some _ _ _ (Or.inl z)⟩
  · subst he
    obtain ⟨t, ht, hq⟩ := body cdv A out s H xs Q E g (hr.deeper _) hsp
    refine ⟨noLim.keeps x.toInCall.keep, codeAny_func ?_⟩
    have I : Inv (cxOf CX0 P w K mg base N qual (defScope st) f cdv A out s H E) [] (L2.start N xs) H s1 := inv_start S hr.hd e0 hlen r x
    refine wpAny_mono (ht.nox.run [] s1 (L2.start N xs) H _ I hq) (fun fl s' hs => ?_) fun e s' hs => hs
    cases fl with
    | ret u => exact let ⟨v, σ', H', J, rv, q⟩ := hs; ⟨v, H', J.os, J.bare, J.base, J.hok, rv, q⟩
    | next => exact let ⟨σ', H', J, q⟩ := hs; ⟨V.non, H', J.os, J.bare, J.base, J.hok, rfl, q⟩
    | brk => exact let ⟨_, _, _, q⟩ := hs; False.elim q
    | cont => exact let ⟨_, _, _, q⟩ := hs; False.elim q
end
section
variable {X : Cx} {k : Nat} {f : Addr} {fd : FuncData} {ps : List Str} {sp : Sp} {x : Str} {p pos : Pos} {e : Expr} {es : List Expr} {t : TA}
theorem run_fnG {pins : List (Addr × Obj)} {σ : L2.St} {H : Hp} {s : Shared} {Q : VK} {us : List Value} {xs : List V} (F : FnG X.prog X.w X.K X.mg X.base k f fd ps sp) (g : Still X.A) (hr : Room k X.A) (hb : Binds X.K fd ps [])
    (I : Inv X pins σ H s) (r : Vals xs us) (h : sp xs H Q E0) : wpAny (model X.prog X.w) X.A (call (.ref f) us) (EP X pins σ Q) X.xe s := by
  have hl : (us ++ []).length = ps.length := by
    rw [List.append_nil, ← r.length]
    exact F.len _ _ _ _ h
  have hbb := hb s us I.kIn hl
  rw [List.append_nil] at hbb
  refine wpAny_call (codeAny_mono (F.run X.A X.stack s H ⟨us, []⟩ us xs Q E0 g hr I.env0 hbb r h) fun res s' hq => ?_)
  cases res with
  | error e => exact False.elim hq
  | ok fl => cases fl <;> first | exact I.after hq | exact False.elim hq
theorem pe_callG (F : FnG X.prog X.w X.K X.mg X.base k f fd ps sp) (g : Still X.A) (hr : Room k X.A) (hg : Gl X x) (hm : X.mg x = some (.ref f)) (hk : PySem.W.keepIn X.K (.ref f) = true) (hb : Binds X.K fd ps [])
    (ha : PA X (e :: es) t) (hdb : (x == ("__debug__" : Str)) = false) (he : starEach (e :: es) X.env = (false, eval e X.env) :: starEach es X.env) (hpl : (backTo pos (starEach es X.env)).any (·.1) = false) : PE X (.Call (.Name x p) (e :: es) [] pos) (tCall sp [] E0 t) :=
  ⟨fun pins s σ H Q I h => wpAny_Call_Name_kw (ld_glob I hg hm (PySem.W.callWith_K (h₀ := X.base) I.ok.mod.kin hk (thn (ha.run pos pins s σ H _ I h) fun us s1 ⟨xs, H1, I1, r, q⟩ => ⟨I1.kIn, run_fnG F g hr hb I1 r (by have q : sp (xs ++ []) H1 Q E0 := q; rw [List.append_nil] at q; exact q)⟩) he hpl) hdb)⟩
theorem pe_callG0 (F : FnG X.prog X.w X.K X.mg X.base k f fd ps sp) (g : Still X.A) (hr : Room k X.A) (hg : Gl X x) (hm : X.mg x = some (.ref f)) (hk : PySem.W.keepIn X.K (.ref f) = true) (hb : Binds X.K fd ps [])
    (hdb : (x == ("__debug__" : Str)) = false) : PE X (.Call (.Name x p) [] [] pos) (tCall sp [] E0 tNil) :=
  ⟨fun pins s σ H Q I h => wpAny_Call_Name_kw (ld_glob I hg hm (PySem.W.callWith_K0 I.kIn hk (run_fnG (us := []) F g hr hb I .nil h)) hdb)⟩
end
theorem still_caller : Still callerA := by first | rfl | decide
theorem still_deeper {A : Around} (g : Still A) (env : Env) : Still (A.deeper env) := by
  first | exact g | (unfold Still at *; simp [Around.deeper, g]) 
section
variable {P : Program} {w : World} {K : PySem.W.Frag} {mg mb : Str → Option Value}
/-- the law's call over a heap in which at most the script is tracked -/
theorem law_core {k : Nat} {fa a : Addr} {fd : FuncData} {x : Str} {sp : Sp} {s : Shared} {us : List Value} (KX : K.In s.heap) (hns : s.heap.Ns mainGlobals mg) (hb : s.heap.Ns builtinsNs mb) (hbb : ∀ y : Str, y ≠ "__name__" → mb y = bootBuiltins y)
    (hlim : s.heap.NoLimit) (hg : s.gens = #[]) (ha : s.heap.get? a = some { cls := .type "list", data := .seq us.toArray }) (hr : Room k callerA) (F : ∀ base : Heap, K.In base → base.Ns mainGlobals mg → FnG P w K mg base k fa fd [x] sp)
    (bnd : ∀ (z : Shared) (u : Value), BindsTo z fd ⟨[u], []⟩ [(x, u)]) (H : Hp) (hO : Only H) (h : sp [.ref a] H (fun v _ => v = .bl true) E0) (hok : HOk P w H s.heap) (hA : ∀ b, H b ≠ none → b = a) (hK : H a ≠ none → K.lookup a = none) :
    codeAny (model P w) callerA (.call (.ref fa) ⟨[.ref a], []⟩) (fun r s' => r = .ok (.ret (.bool true)) ∧ OldK s.heap s'.heap ∧ s'.os = s.os ∧ AllBare s'.gens) s := by
  have free : ∀ {b : Addr} {o : Obj} {es : Array DictEntry} {n : Nat}, s.heap.get? b = some o → o.data = .dict es n → H b = none := fun {b o es n} e z => Classical.byContradiction fun q => by
    have hb := hA b q
    subst hb
    rw [ha] at e
    cases e
    cases (show Data.seq us.toArray _ = Data.dict es n from z)
  have keep : ∀ {b : Addr} {m : Str → Option Value}, s.heap.Ns b m → (hidT s.heap H).Ns b m := fun {b m} ⟨o, es, n, e, z, r⟩ => ⟨o, es, n, hidT_get e (free e z), z, r⟩
  have inb : K.In (hidT s.heap H) := fun b o e => hidT_get (KX b o e) (Classical.byContradiction fun q => by
    have hb := hA b q
    subst hb
    rw [hK q] at e
    cases e)
  obtain ⟨mc, l1, l2⟩ := hlim
  have env : Env0 P w K mg (hidT s.heap H) callerA [] s H := ⟨rfl, ⟨inb, keep hns, ⟨mb, keep hb, hbb⟩, ⟨mc, keep l1, l2⟩⟩, fun _ _ e => of_hidT e, Nat.le_of_eq (hidT_size _ _), trivial, fun b z => absurd (show b ∈ ([] : List Addr) from z) (by simp), hok, .of_eq hg⟩
  refine codeAny_mono ((F _ inb (keep hns)).run callerA [] s H ⟨[.ref a], []⟩ [.ref a] [.ref a] _ _ still_caller hr env (bnd s (.ref a)) (.cons rfl .nil) h) fun r s' z => ?_
  rcases r with e | fl
  · exact False.elim z
  · cases fl with
    | ret u =>
      obtain ⟨v, H', os, bare, un, hok2, rv, q⟩ := z
      have q : v = .bl true := q
      subst q
      obtain rfl : u = Value.bool true := rv
      refine ⟨rfl, OldK.of_keep fun b o e => ?_, os, bare⟩
      cases hq : H b with
      | none => exact un.keep b o e hq (fun z => absurd (show b ∈ ([] : List Addr) from z) (by simp)) (by simp)
      | some u =>
        rcases hO b with z | ⟨ob, xs, z⟩
        · exact absurd (z.symm.trans hq) (by simp)
        · have e1 := (hok b _ z).1
          have e2 := (hok2 b _ (un.frzs b ob _ z)).1
          exact e2.trans (e1.symm.trans e)
    | next => exact False.elim z
    | brk => exact False.elim z
    | cont => exact False.elim z
theorem law_callG {k : Nat} {fa a : Addr} {fd : FuncData} {x : Str} {sp : Sp} {s : Shared} {us : List Value} {ns : List Int} (KX : K.In s.heap) (hns : s.heap.Ns mainGlobals mg) (hb : s.heap.Ns builtinsNs mb) (hbb : ∀ y : Str, y ≠ "__name__" → mb y = bootBuiltins y)
    (hlim : s.heap.NoLimit) (hg : s.gens = #[]) (ha : s.heap.get? a = some { cls := .type "list", data := .seq us.toArray }) (hi : IntsAre us ns) (hl : ns.length ≤ sizeLine) (hr : Room k callerA) (F : ∀ base : Heap, K.In base → base.Ns mainGlobals mg → FnG P w K mg base k fa fd [x] sp)
    (bnd : ∀ (z : Shared) (u : Value), BindsTo z fd ⟨[u], []⟩ [(x, u)]) (hsp : ∀ H : Hp, Only H → SqL K H a (ns.map V.int) → sp [.ref a] H (fun v _ => v = .bl true) E0) :
    codeAny (model P w) callerA (.call (.ref fa) ⟨[.ref a], []⟩) (fun r s' => r = .ok (.ret (.bool true)) ∧ OldK s.heap s'.heap ∧ s'.os = s.os ∧ AllBare s'.gens) s := by
  have rv := vals_ints hi
  have hlen := hi.length
  cases hk : K.lookup a with
  | some o =>
    obtain rfl : _ = o := Option.some.inj (ha.symm.trans (KX a o hk))
    have hS : SqL K (fun _ => none) a (ns.map V.int) := .inr ⟨_, us.toArray, _, hk, rfl, rfl, rfl, by rw [List.size_toArray, hlen]; exact hl, by simpa using rv⟩
    exact law_core KX hns hb hbb hlim hg ha hr F bnd (fun _ => none) (fun _ => .inl rfl) (hsp _ (fun _ => .inl rfl) hS) (fun b u z => nomatch (show (none : Option HO) = some u from z)) (fun b z => absurd rfl z) fun z => absurd rfl z
  | none =>
    let H1 : Hp := fun b => if b = a then some (.frz { cls := .type "list", data := .seq us.toArray } (.lst (ns.map V.int))) else none
    have at_a : H1 a = some (.frz { cls := .type "list", data := .seq us.toArray } (.lst (ns.map V.int))) := if_pos rfl
    have off : ∀ {b}, b ≠ a → H1 b = none := fun n => if_neg n
    have only : Only H1 := fun b => by
      by_cases z : b = a
      · exact .inr ⟨_, _, by rw [z]; exact at_a⟩
      · exact .inl (off z)
    refine law_core KX hns hb hbb hlim hg ha hr F bnd H1 only (hsp _ only (.inl (.inr ⟨_, at_a⟩))) (fun b u z => ?_) (fun b z => Classical.byContradiction fun n => z (off n)) fun _ => hk
    by_cases n : b = a
    · subst n
      obtain rfl := Option.some.inj (at_a.symm.trans z)
      exact ⟨ha, by rw [List.length_map]; exact hl, us, _, rv, ha⟩
    · rw [off n] at z
      cases z
end
/-- the goal that k_head leaves, from the law's promise -/
theorem walk_ofG {l : PySem.W.OpenLaw} {n k : Nat} {q : Program} {loose : List Str} {XP : (Str → Option Value) → Heap → Prop} {YP : World → Heap → Prop} {d : DefRec} {K : Params → PySem.W.Frag} {sp : World → Sp} {x : Str}
    (hn : l.most = some n) (hn2 : n ≤ sizeLine) (hdf : d.params.defaults = []) (hr : Room k callerA) (hY : ∀ (w : World) (h : Heap), YP w h → (K w.params).In h)
    (F : ∀ (w : World) (mg : Str → Option Value) (fa : Addr) (h : Heap), (K w.params).In h → h.Ns mainGlobals mg → mg d.name = some (.ref fa) → ∃ fd : FuncData, (∀ (z : Shared) (u : Value), BindsTo z fd ⟨[u], []⟩ [(x, u)]) ∧
      ∀ base : Heap, (K w.params).In base → base.Ns mainGlobals mg → FnG l.prog w (K w.params) mg base k fa fd [x] (sp w))
    (hsp : ∀ (w : World) (H : Hp) (a : Addr) (ns : List Int), ns.length ≤ n → Only H → SqL (K w.params) H a (ns.map V.int) → sp w [.ref a] H (fun v _ => v = .bl true) E0) : PySem.W.WalkO q loose XP YP l.row.toRowW d [] (fun f vs => PySem.call f vs) :=
  Att.attach_call hn hdf fun w s0 s1 mg mb fa o pm cd doc a vs ns G Y ho hd hcd hmg hobj hints hlen hg =>
    have KX := hY w _ Y
    let ⟨fd, hb, hF⟩ := F w mg fa _ KX G.T.g hmg
    law_callG KX G.T.g G.T.b G.T.builtins G.T.nolimit hg hobj hints (Nat.le_trans hlen hn2) hr hF hb fun H hO hS => hsp w H a ns hlen hO hS
end PV

set_option Elab.async false
set_option linter.all false
set_option maxRecDepth 100000
set_option maxHeartbeats 4000000
/-! PV5: expressions of the text as E, and that they are worth what evE says. -/
namespace PV
open PySem PySem.Spec PyProof.Rows L2

/-! ### what a text is turned into -/
/-- names by slot; defs known by name; constants of the module -/
structure Cfg where
  N : List Str
  tab : Str → Option Fn
  cst : Str → Option PyData
abbrev Sc := List (Str × NameKind)
def vis (sc : Sc) (x : Str) : Prop := sc.lookup x = some .local ∨ sc.lookup x = some .cell ∨ sc.lookup x = some .free
def loc (sc : Sc) (x : Str) : Prop := sc.lookup x = some .local ∨ sc.lookup x = some .cell
def gli (sc : Sc) (x : Str) : Prop := sc.lookup x = some .globalImplicit
def biName : BI → Option Str
  | .len => some "len" | .abs => some "abs" | .int => some "int" | .min => some "min" | .max => some "max" | .sum => some "sum" | .sorted => some "sorted" | .list => some "list" | .tuple => some "tuple" | .repr => some "repr"
  | _ => none
def isName : BI → Option Str
  | .isInt => some "int" | .isBool => some "bool" | .isList => some "list" | .isTuple => some "tuple" | .isStr => some "str"
  | _ => none
def builtinsUsed : List Str := ["len", "abs", "int", "min", "max", "sum", "sorted", "list", "tuple", "isinstance", "bool", "str", "range", "repr", "set"]
def noStar : Expr → Bool
  | .Starred _ _ => false
  | _ => true
def noSlice : Expr → Bool
  | .Slice _ _ _ _ => false
  | _ => true
def noSet : Expr → Bool
  | .Set _ _ _ => false
  | _ => true
def notCall : Expr → Bool
  | .Call _ _ _ _ => false
  | _ => true
def gslots : G → List Nat
  | .nm i => [i]
  | .two a b => gslots a ++ gslots b
  | .thr a b c => gslots a ++ gslots b ++ gslots c
  | .fou a b c d => gslots a ++ gslots b ++ gslots c ++ gslots d
/-- targets -/
inductive CG (c : Cfg) (sc : Sc) : Expr → G → Prop
  | nm {x pos i} : c.N[i]? = some x → loc sc x → CG c sc (.Name x pos) (.nm i)
  | two {a b k pos ga gb} : CG c sc a ga → CG c sc b gb → CG c sc (.Tuple [a, b] k pos) (.two ga gb)
  | thr {a b d k pos ga gb gd} : CG c sc a ga → CG c sc b gb → CG c sc d gd → CG c sc (.Tuple [a, b, d] k pos) (.thr ga gb gd)
  | fou {a b d e k pos ga gb gd ge} : CG c sc a ga → CG c sc b gb → CG c sc d gd → CG c sc e ge → CG c sc (.Tuple [a, b, d, e] k pos) (.fou ga gb gd ge)
mutual
inductive CE (c : Cfg) : Sc → Expr → E → Prop
  | name {sc x pos i} : c.N[i]? = some x → vis sc x → (x == ("__debug__" : Str)) = false → (x == ("__classdict__" : Str)) = false → CE c sc (.Name x pos) (.v i)
  | const {sc x pos d} : gli sc x → c.cst x = some d → (x == ("__debug__" : Str)) = false → CE c sc (.Name x pos) (.c d)
  | int {sc i j pos} : CE c sc (.Constant (.int i) j pos) (.c (.int i))
  | bool {sc b j pos} : CE c sc (.Constant (.bool b) j pos) (.c (.bool b))
  | none {sc j pos} : CE c sc (.Constant .none j pos) (.c .none)
  | str {sc x j pos} : CE c sc (.Constant (.str x) j pos) (.c (.str x))
  | bin {sc o a b pos x y} : CE c sc a x → CE c sc b y → CE c sc (.BinOp a (opOf o) b pos) (.bin o x y)
  | neg {sc a pos x} : CE c sc a x → CE c sc (.UnaryOp .USub a pos) (.neg x)
  | cmp {sc o a b pos x y} : CE c sc a x → CE c sc b y → behindInMarks (copOf o) b = false → CE c sc (.Compare a [copOf o] [b] pos) (.cmp o x y)
  | chain {sc o p a b d pos x y z} : CE c sc a x → CE c sc b y → CE c sc d z → behindInMarks (copOf p) d = false → CE c sc (.Compare a [copOf o, copOf p] [b, d] pos) (.chain o p x y z)
  | and {sc a b es pos x} : CA c sc (a :: b :: es) pos x → CE c sc (.BoolOp .And (a :: b :: es) pos) x
  | or {sc a b es pos x} : CO c sc (a :: b :: es) pos x → CE c sc (.BoolOp .Or (a :: b :: es) pos) x
  | not {sc a pos x} : CE c sc a x → CE c sc (.UnaryOp .Not a pos) (.not x)
  | ite {sc t a b pos z x y} : CE c sc t z → CE c sc a x → CE c sc b y → CE c sc (.IfExp t a b pos) (.ite z x y)
  | tup {sc es k pos xs} : CEs c sc es xs → CE c sc (.Tuple es k pos) (.tup xs)
  | lst {sc es pos xs} : CEs c sc es xs → CE c sc (.List es pos) (.lst xs)
  | ix {sc a b pos x y} : CE c sc a x → CE c sc b y → noSlice b = true → CE c sc (.Subscript a b pos) (.ix x y)
  | sl {sc a lo hi p pos x l h} : CE c sc a x → CP c sc lo l → CP c sc hi h → CE c sc (.Subscript a (.Slice lo hi none p) pos) (.sl x l h)
  | call {sc f p e es pos F xs} : gli sc f → c.tab f = some F → (f == ("__debug__" : Str)) = false → CEs c sc (e :: es) xs → CE c sc (.Call (.Name f p) (e :: es) [] pos) (.call F xs)
  | call0 {sc f p pos F} : gli sc f → c.tab f = some F → (f == ("__debug__" : Str)) = false → CE c sc (.Call (.Name f p) [] [] pos) (.call F .nil)
  | rev {sc e k p1 p2 p3 pos x} : CE c sc e x → CE c sc (.Subscript e (.Slice none none (some (.UnaryOp .USub (.Constant (.int 1) k p1) p2)) p3) pos) (.rev x)
  | rngl1 {sc p p2 e pos q x} : gli sc "list" → gli sc "range" → CE c sc e x → noStar e = true → CE c sc (.Call (.Name "list" p) [.Call (.Name "range" p2) [e] [] q] [] pos) (.rngl (.cons x .nil))
  | rngl2 {sc p p2 e f pos q x y} : gli sc "list" → gli sc "range" → CE c sc e x → noStar e = true → CE c sc f y → noStar f = true → CE c sc (.Call (.Name "list" p) [.Call (.Name "range" p2) [e, f] [] q] [] pos) (.rngl (.cons x (.cons y .nil)))
  | count {sc o e apos cpos x y} : CE c sc o x → CE c sc e y → (apos.endLine == cpos.line) = true → notCall o = true → noStar o = true → noStar e = true → CE c sc (.Call (.Attribute o "count" apos) [e] [] cpos) (.bi .count (.cons x (.cons y .nil)))
  | bi {sc b f p e es pos xs} : gli sc f → biName b = some f → CEs c sc (e :: es) xs → CE c sc (.Call (.Name f p) (e :: es) [] pos) (.bi b xs)
  | sset {sc p p2 e pos q x} : gli sc "sorted" → gli sc "set" → CE c sc e x → noStar e = true → CE c sc (.Call (.Name "sorted" p) [.Call (.Name "set" p2) [e] [] q] [] pos) (.bi .sortedSet (.cons x .nil))
  | is {sc b T p p2 e pos x} : gli sc "isinstance" → gli sc T → isName b = some T → CE c sc e x → noStar e = true → CE c sc (.Call (.Name "isinstance" p) [e, .Name T p2] [] pos) (.bi b (.cons x .nil))
  | index {sc o e apos cpos x y} : CE c sc o x → CE c sc e y → (apos.endLine == cpos.line) = true → notCall o = true → noStar o = true → noStar e = true → CE c sc (.Call (.Attribute o "index" apos) [e] [] cpos) (.bi .index (.cons x (.cons y .nil)))
  | comp {sc elt tg iter ifs scope pos own g it t x} : CI c sc iter it → CG c scope.names tg g → CC c scope.names ifs t → CE c scope.names elt x → blkC c.N ⟨.function, sc, false, false, []⟩ scope own = true →
      (gslots g).all (fun i => (own.map (·.2)).contains i) = true → noSet iter = true → CE c sc (.ListComp elt [⟨tg, iter, ifs, 0⟩] scope pos) (.comp (own.map (·.2)) g it t x)
  | comp2 {sc elt tg iter ifs tg1 iter1 ifs1 scope pos own g it t g1 it1 t1 x} {own1 : List Nat} : CI c sc iter it → CG c scope.names tg g → CC c scope.names ifs t → CI c scope.names iter1 it1 → CG c scope.names tg1 g1 → CC c scope.names ifs1 t1 → CE c scope.names elt x →
      blkC c.N ⟨.function, sc, false, false, []⟩ scope own = true → (gslots g).all (fun i => (own.map (·.2)).contains i) = true → (gslots g1).all (fun i => own1.contains i) = true → own1.all (fun i => (own.map (·.2)).contains i) = true →
      noSet iter = true → noSet iter1 = true → CE c sc (.ListComp elt [⟨tg, iter, ifs, 0⟩, ⟨tg1, iter1, ifs1, 0⟩] scope pos) (.comp2 (own.map (·.2)) g it t own1 g1 it1 t1 x)
/-- and, by the right -/
inductive CA (c : Cfg) : Sc → List Expr → Pos → E → Prop
  | one {sc a pos x} : CE c sc a x → CA c sc [a] pos x
  | cons {sc a b es pos x y} : CE c sc a x → CA c sc (b :: es) pos y → CA c sc (a :: b :: es) pos (.and x y)
inductive CO (c : Cfg) : Sc → List Expr → Pos → E → Prop
  | one {sc a pos x} : CE c sc a x → CO c sc [a] pos x
  | cons {sc a b es pos x y} : CE c sc a x → CO c sc (b :: es) pos y → CO c sc (a :: b :: es) pos (.or x y)
inductive CEs (c : Cfg) : Sc → List Expr → Es → Prop
  | nil {sc} : CEs c sc [] .nil
  | cons {sc e es x xs} : CE c sc e x → noStar e = true → CEs c sc es xs → CEs c sc (e :: es) (.cons x xs)
inductive CP (c : Cfg) : Sc → Option Expr → Oe → Prop
  | no {sc} : CP c sc none .no
  | yes {sc e x} : CE c sc e x → CP c sc (some e) (.yes x)
inductive CC (c : Cfg) : Sc → List Expr → Oe → Prop
  | no {sc} : CC c sc [] .no
  | yes {sc e x} : CE c sc e x → CC c sc [e] (.yes x)
inductive CI (c : Cfg) : Sc → Expr → I → Prop
  | rng {sc p e es pos xs} : gli sc "range" → CEs c sc (e :: es) xs → es.length ≤ 2 → CI c sc (.Call (.Name "range" p) (e :: es) [] pos) (.rng xs)
  | seq {sc e x} : CE c sc e x → CI c sc e (.seq x)
end
end PV

set_option Elab.async false
set_option linter.all false
set_option maxRecDepth 100000
set_option maxHeartbeats 4000000
/-! PV6: expressions are worth what evE says. -/
namespace PV
open PySem PySem.Spec PyProof.Rows L2

/-- what a def promises: the value of a plain function -/
def spF (K : PySem.W.Frag) (f : Fn) : Sp := fun vs H Q _ => ∃ (P : Addr → Prop) (ds : List PyData) (r : R), (∀ a, P a → ∃ xs, H a = some (.lst xs)) ∧ RpA K H P vs ds ∧ f ds = some r ∧ ∀ v H', Same H H' → RpR K H H' P false v r → Q v H'
structure Good (c : Cfg) (k : Nat) (sc : Sc) (X : Cx) : Prop where
  hN : X.N = c.N
  nd : c.N.Nodup
  calm : X.calm = true
  kind : X.env.scope.kind = .function
  lc : ∀ x, sc.lookup x = some .local → X.env.scope.names.lookup x = some .local
  cl : ∀ x, sc.lookup x = some .cell → X.env.scope.names.lookup x = some .cell ∧ X.fn x = true
  fr : ∀ x, sc.lookup x = some .free → X.env.scope.names.lookup x = some .cell ∨ X.env.scope.names.lookup x = some .free
  gl : ∀ x, sc.lookup x = some .globalImplicit → Gl X x
  still : Still X.A
  room : Room k X.A
  pass : PassesOwn (model X.prog X.w) X.A X.env X.xe
  fns : ∀ x f, c.tab x = some f → ∃ a fd ps, X.mg x = some (.ref a) ∧ PySem.W.keepIn X.K (.ref a) = true ∧ Binds X.K fd ps [] ∧ FnG X.prog X.w X.K X.mg X.base k a fd ps (spF X.K f)
  blt : ∀ x ∈ builtinsUsed, X.mg x = none
  csts : ∀ x d, c.cst x = some d → ∃ u v, X.mg x = some u ∧ RelV v u ∧ ∀ H O, Rp X.K H O v d

section
variable {X : Cx}
theorem PE.imp {e : Expr} {t t' : TE} (h : PE X e t) (i : ∀ σ H Q, t' σ H Q → t σ H Q) : PE X e t' := ⟨fun pins s σ H Q I q => h.run pins s σ H Q I (i σ H Q q)⟩
theorem PT.imp {e : Expr} {t t' : TT} (h : PT X e t) (i : ∀ σ H Q, t' σ H Q → t σ H Q) : PT X e t' := ⟨fun pins s σ H Q I q => h.run pins s σ H Q I (i σ H Q q)⟩
theorem PW.imp {e : Expr} {t t' : TT} (h : PW X e t) (i : ∀ σ H Q, t' σ H Q → t σ H Q) : PW X e t' := ⟨fun w pins s σ H Q I q => h.run w pins s σ H Q I (i σ H Q q)⟩
theorem PTs.imp {e : List Expr} {t t' : TT} (h : PTs X e t) (i : ∀ σ H Q, t' σ H Q → t σ H Q) : PTs X e t' := ⟨fun pins s σ H Q I q => h.run pins s σ H Q I (i σ H Q q)⟩
theorem PA.imp {e : List Expr} {t t' : TA} (h : PA X e t) (i : ∀ σ H Q, t' σ H Q → t σ H Q) : PA X e t' := ⟨fun p pins s σ H Q I q => h.run p pins s σ H Q I (i σ H Q q)⟩
theorem PO.imp {e : Option Expr} {t t' : TO} (h : PO X e t) (i : ∀ σ H Q, t' σ H Q → t σ H Q) : PO X e t' := ⟨fun pins s σ H Q I q => h.run pins s σ H Q I (i σ H Q q)⟩
theorem PI.imp {tg e : Expr} {t t' : TI} (h : PI X tg e t) (i : ∀ σ H Q, t' σ H Q → t σ H Q) : PI X tg e t' := ⟨fun pins s σ H Q I q => h.run pins s σ H Q I (i σ H Q q)⟩
theorem PG.imp {tg : Expr} {t t' : TG} (h : PG X tg t) (i : ∀ v σ H Q, t' v σ H Q → t v σ H Q) : PG X tg t' := ⟨fun pins s σ H v u Q I r q => h.run pins s σ H v u Q I r (i v σ H Q q)⟩
end

/-! ### readings -/
abbrev Set0 := Addr → Prop
/-- as Rp, or the items of a list that is no caller's -/
def RpBO (K : PySem.W.Frag) (H : Hp) (O P : Set0) (v : V) (d : PyData) : Prop :=
  Rp K H P v d ∨ ∃ a xs ds, v = .ref a ∧ d = .list ds ∧ H a = some (.lst xs) ∧ ¬ O a ∧ RpA K H P xs ds
def RpX (K : PySem.W.Frag) (H0 H : Hp) (O P : Set0) (b : Bool) (v : V) : R → Prop
  | (true, d) => ∃ a xs ds, v = .ref a ∧ d = .list ds ∧ H a = some (.lst xs) ∧ H0 a = none ∧ RpA K H (fun x => P x ∨ x = a) xs ds
  | (false, d) => if b then RpBO K H O P v d else Rp K H P v d
def tE (K : PySem.W.Frag) (x : E) (b : Bool) : TE := fun σ H Q => ∃ (O : Set0) (H0 : Hp) (A : Nat → Option Addr) (ρ : Sl) (r : R), Ok K O H0 A H σ ρ ∧ evE x b ρ = some r ∧ ∀ v H', Same H H' → RpX K H H' O (Ow O A) b v r → Q v H'
def tT (K : PySem.W.Frag) (x : E) : TT := fun σ H Q => ∃ (O : Set0) (H0 : Hp) (A : Nat → Option Addr) (ρ : Sl) (k : Bool), Ok K O H0 A H σ ρ ∧ evT x ρ = some k ∧ ∀ H', Same H H' → Q k H'
def tEs (K : PySem.W.Frag) (xs : Es) (b : Bool) : TA := fun σ H Q => ∃ (O : Set0) (H0 : Hp) (A : Nat → Option Addr) (ρ : Sl) (ds : List PyData), Ok K O H0 A H σ ρ ∧ evEs xs b ρ = some ds ∧
  ∀ vs H', Same H H' → (if b then RpBs K H' (Ow O A) vs ds else RpA K H' (Ow O A) vs ds) → Q vs H'
def tP (K : PySem.W.Frag) (x : Oe) : TO := fun σ H Q => ∃ (O : Set0) (H0 : Hp) (A : Nat → Option Addr) (ρ : Sl) (l : Option Int), Ok K O H0 A H σ ρ ∧ evP x ρ = some l ∧ ∀ H', Same H H' → Q l H'
def tC (K : PySem.W.Frag) (x : Oe) : TT := fun σ H Q => ∃ (O : Set0) (H0 : Hp) (A : Nat → Option Addr) (ρ : Sl) (k : Bool), Ok K O H0 A H σ ρ ∧ evC x ρ = some k ∧ ∀ H', Same H H' → Q k H'
/-- J walks the items ds, in every heap that bears it -/
def Wk (K : PySem.W.Frag) (J : It) (Kp : Hp → Prop) (H1 : Hp) (P : Set0) (ds : List PyData) : Prop :=
  ∀ H, Kp H → ∀ i : Nat, (∀ d, ds[i]? = some d → J.go i H ∧ ∀ x H', J.yld i H x H' → H' = H ∧ Rp K H1 P x d) ∧ (ds.length ≤ i → J.stop i H)
/-- what must stay while it is walked -/
def KpOf (b : Bool) (H1 : Hp) (O P : Set0) : Hp → Prop := fun H => ∀ a o, H1 a = some o → ¬ (if b then O a else P a) → H a = some o
def tI (K : PySem.W.Frag) (it : I) (b : Bool) : TI := fun σ H R => ∃ (O : Set0) (H0 : Hp) (A : Nat → Option Addr) (ρ : Sl) (ds : List PyData), Ok K O H0 A H σ ρ ∧ evI it b ρ = some ds ∧
  ∀ J H', Same H H' → ds.length ≤ sizeLine → Wk K J (KpOf b H' O (Ow O A)) H' (Ow O A) ds → R J H'
def tG (K : PySem.W.Frag) (g : G) : TG := fun v σ H Q => ∃ (O : Set0) (H0 : Hp) (A : Nat → Option Addr) (ρ ρ' : Sl) (d : PyData), Ok K O H0 A H σ ρ ∧ Rp K H (Ow O A) v d ∧ asg g d ρ = some ρ' ∧
  ∀ σ' , Ok K O H0 A H σ' ρ' → (∀ vs : List Nat, (∀ i ∈ gslots g, i ∈ vs) → wipe σ' vs = wipe σ vs) → Q σ' H

section
variable {K : PySem.W.Frag} {O P : Set0} {H0 H H1 H2 H' : Hp} {A : Nat → Option Addr} {σ : L2.St} {ρ : Sl}
theorem RpX.up {b : Bool} {v : V} {r : R} (s : Same H H1) (h : RpX K H1 H2 O P b v r) : RpX K H H2 O P b v r := by
  obtain ⟨fl, d⟩ := r
  cases fl with
  | false => exact h
  | true =>
    obtain ⟨a, xs, ds, e1, e2, e3, e4, h⟩ := h
    exact ⟨a, xs, ds, e1, e2, e3, s.free e4, h⟩
theorem RpR.up {b : Bool} {v : V} {r : R} (s : Same H H1) (h : RpR K H1 H2 P b v r) : RpR K H H2 P b v r := by
  obtain ⟨fl, d⟩ := r
  cases fl with
  | false => exact h
  | true =>
    obtain ⟨a, xs, ds, e1, e2, e3, e4, h⟩ := h
    exact ⟨a, xs, ds, e1, e2, e3, s.free e4, h⟩
theorem RpR.toX {b : Bool} {v : V} {r : R} (h : RpR K H H1 P false v r) : RpX K H H1 O P b v r := by
  obtain ⟨fl, d⟩ := r
  cases fl with
  | true => exact h
  | false =>
    cases b with
    | false => exact h
    | true => exact .inl h
theorem RpX.toR {v : V} {r : R} (h : RpX K H H1 O P false v r) : RpR K H H1 P false v r := by
  obtain ⟨fl, d⟩ := r
  cases fl with
  | true => exact h
  | false => exact h
theorem RpX.bor {b : Bool} {v : V} {r : R} (h : RpX K H H1 O P false v r) : RpX K H H1 O P b v r := h.toR.toX
theorem RpX.sh {b : Bool} {v : V} {d : PyData} (h : Rp K H1 P v d) : RpX K H H1 O P b v (false, d) := RpR.toX (b := b) (r := (false, d)) h
theorem RpBO.weak {v : V} {d : PyData} (h : RpBO K H O P v d) : RpB K H P v d := by
  rcases h with h | ⟨a, xs, ds, e1, e2, e3, e4, h⟩
  · exact .inl h
  · exact .inr ⟨a, xs, ds, e1, e2, e3, h⟩
theorem bind_some {α β : Type} {x : Option α} {f : α → Option β} {r : β} (h : Option.bind x f = some r) : ∃ a, x = some a ∧ f a = some r := by
  cases x with
  | none => cases h
  | some a => exact ⟨a, rfl, h⟩
theorem map_some {α β : Type} {x : Option α} {f : α → β} {r : β} (h : Option.map f x = some r) : ∃ a, x = some a ∧ f a = r := by
  cases x with
  | none => cases h
  | some a => exact ⟨a, rfl, Option.some.inj h⟩
/-- lists new, or lent, or shared, to be read -/
theorem rpBO_of {b : Bool} (ok : Ok K O H0 A H σ ρ) (s : Same H H') {v : V} {r : R} (h : RpX K H H' O (Ow O A) b v r) : RpBO K H' O (Ow O A) v r.2 := by
  obtain ⟨fl, d⟩ := r
  cases fl with
  | true =>
    obtain ⟨a, xs, ds, e1, e2, e3, e4, h⟩ := h
    exact .inr ⟨a, xs, ds, e1, e2, e3, fun z => ok.fresh e4 (.inl z), h.less fun x z => .inl z⟩
  | false =>
    cases b with
    | false => exact .inl h
    | true => exact h
theorem rpB_of {b : Bool} (ok : Ok K O H0 A H σ ρ) (s : Same H H') {v : V} {r : R} (h : RpX K H H' O (Ow O A) b v r) : RpB K H' (Ow O A) v r.2 := (rpBO_of ok s h).weak
/-- a slot's value -/
theorem slot_val (ok : Ok K O H0 A H σ ρ) {i : Nat} {b : Bool} {r : R} (e : evE (.v i) b ρ = some r) : ∃ v, σ[i]? = some (some v) ∧ RpX K H H O (Ow O A) b v r := by
  simp only [evE] at e
  cases q : ρ[i]? with
  | none => rw [q] at e; cases e
  | some o =>
    cases o with
    | none => rw [q] at e; cases e
    | some p =>
      obtain ⟨fl, d⟩ := p
      rw [q] at e
      obtain ⟨v, e1, h⟩ := ok.val i _ q
      refine ⟨v, e1, ?_⟩
      cases fl with
      | false =>
        cases e
        exact RpX.sh h
      | true =>
        cases b with
        | false => cases e
        | true =>
          cases e
          obtain ⟨a, xs, ds, q1, q2, q3, q4, h⟩ := h
          refine .inr ⟨a, xs, ds, q2, q3, q4, fun z => ?_, h⟩
          obtain ⟨ys, z⟩ := ok.odom a z
          rw [ok.new i a q1] at z; cases z
theorem KpOf.self {b : Bool} : KpOf b H O P H := fun a o e _ => e
theorem KpOf.same {b : Bool} (s : Same H H1) : KpOf b H O P H1 := fun a o e _ => s a o e
end

/-! ### targets -/
theorem wipe_set {i : Nat} {x : Option V} : ∀ {σ : L2.St} {vs : List Nat}, i ∈ vs → wipe (σ.set i x) vs = wipe σ vs
  | σ, [], h => absurd h (by simp)
  | σ, v :: vs, h => by
    show (wipe (σ.set i x) vs).set v none = (wipe σ vs).set v none
    by_cases hi : i ∈ vs
    · rw [wipe_set hi]
    · have e : i = v := by
        rcases List.mem_cons.mp h with e | e
        · exact e
        · exact absurd e hi
      subst e
      have : wipe (σ.set i x) vs = (wipe σ vs).set i x := by
        clear h
        induction vs with
        | nil => rfl
        | cons u us ih =>
          have h1 : u ≠ i := fun z => hi (by rw [z]; exact List.mem_cons_self)
          show (wipe (σ.set i x) us).set u none = ((wipe σ us).set u none).set i x
          rw [ih fun z => hi (List.mem_cons_of_mem _ z), List.set_comm _ _ h1.symm]
      rw [this, List.set_set]
section
variable {X : Cx} {c : Cfg} {k : Nat} {sc : Sc}
theorem Good.loc (g : Good c k sc X) {x : Str} (h : PV.loc sc x) : Loc X.env.scope x ∧ (X.fn x = true ∨ X.env.scope.names.lookup x = some .local) := by
  rcases h with h | h
  · exact ⟨.inl (g.lc x h), .inr (g.lc x h)⟩
  · exact ⟨.inr (g.cl x h).1, .inl (g.cl x h).2⟩
theorem Good.vis (g : Good c k sc X) {x : Str} (h : PV.vis sc x) : Vis X.env.scope x := by
  rcases h with h | h | h
  · exact .inl (g.lc x h)
  · exact .inr (.inl (g.cl x h).1)
  · exact .inr (g.fr x h)
theorem noStarG {e : Expr} {g : G} (h : CG c sc e g) : noStar e = true := by cases h <;> rfl
theorem assignEach_cons {e : Expr} {es : List Expr} {env : Env} (h : noStar e = true) : assignEach (e :: es) env = (false, assign e env) :: assignEach es env := by
  cases e <;> first | rfl | cases h
theorem pgs_cons' {e : Expr} {es : List Expr} {t : TG} {u : TGs} (h1 : PG X e t) (h2 : PGs X es u) (h : noStar e = true) : PGs X (e :: es) (gCons t u) :=
  pgs_cons h1 h2 (by rw [assignEach_cons h]; rfl)
/-- a tuple or a list, taken apart -/
theorem pg_seq {es : List Expr} {kk n : Nat} {pos : Pos} {t : TGs} (hc : X.calm = true) (h : PGs X es t) (hn : (assignEach es X.env).length = n) (hst : (assignEach es X.env).findIdx? (·.1) = none) :
    PG X (.Tuple es kk pos) (fun v σ H Q => gTup X.K n t v σ H Q ∨ gLst X.K n t v σ H Q) :=
  ⟨fun pins s σ H v u Q I r hw => hw.elim (fun z => (pg_tup hc h hn hst).run pins s σ H v u Q I r z) fun z => (pg_lst hc h hn hst).run pins s σ H v u Q I r z⟩
theorem rp_items {K : PySem.W.Frag} {H : Hp} {P : Set0} {v : V} {d : PyData} {ds : List PyData} (r : Rp K H P v d) (e : itemsOf d = some ds) : ∃ p xs, v = .ref p ∧ (SqT K H p xs ∨ SqL K H p xs) ∧ RpA K H P xs ds := by
  cases d <;> cases e
  · obtain ⟨p, xs, rfl, h1, h2⟩ := RpB.list (.inl r)
    exact ⟨p, xs, rfl, .inr (.inl h1), h2⟩
  · obtain ⟨p, xs, rfl, h1, h2⟩ := RpB.tuple (.inl r)
    exact ⟨p, xs, rfl, .inl h1, h2⟩
theorem asg2 {a b : G} {d : PyData} {ρ ρ' : Sl} (e : asg (.two a b) d ρ = some ρ') : ∃ x y ρ1, itemsOf d = some [x, y] ∧ asg a x ρ = some ρ1 ∧ asg b y ρ1 = some ρ' := by
  have fin : ∀ ds : List PyData, itemsOf d = some ds → (∃ x y, ds = [x, y]) → ∃ x y ρ1, itemsOf d = some [x, y] ∧ asg a x ρ = some ρ1 ∧ asg b y ρ1 = some ρ' := by
    rintro ds hi ⟨x, y, rfl⟩
    have e : ((asg a x ρ).bind fun ρ1 => asg b y ρ1) = some ρ' := by cases d <;> cases hi <;> exact e
    obtain ⟨ρ1, e1, e2⟩ := bind_some e
    exact ⟨x, y, ρ1, hi, e1, e2⟩
  cases d <;> try (exact absurd e (by simp [asg]))
  all_goals
    rename_i ds
    refine fin ds rfl ?_
    match ds, e with
    | [x, y], _ => exact ⟨x, y, rfl⟩
    | [], e => exact absurd e (by simp [asg])
    | [x], e => exact absurd e (by simp [asg])
    | x :: y :: z :: u, e => exact absurd e (by simp [asg])
theorem asg3 {a b c : G} {d : PyData} {ρ ρ' : Sl} (e : asg (.thr a b c) d ρ = some ρ') : ∃ x y z ρ1 ρ2, itemsOf d = some [x, y, z] ∧ asg a x ρ = some ρ1 ∧ asg b y ρ1 = some ρ2 ∧ asg c z ρ2 = some ρ' := by
  have fin : ∀ ds : List PyData, itemsOf d = some ds → (∃ x y z, ds = [x, y, z]) → ∃ x y z ρ1 ρ2, itemsOf d = some [x, y, z] ∧ asg a x ρ = some ρ1 ∧ asg b y ρ1 = some ρ2 ∧ asg c z ρ2 = some ρ' := by
    rintro ds hi ⟨x, y, z, rfl⟩
    have e : ((asg a x ρ).bind fun ρ1 => (asg b y ρ1).bind fun ρ2 => asg c z ρ2) = some ρ' := by cases d <;> cases hi <;> exact e
    obtain ⟨ρ1, e1, e2⟩ := bind_some e
    obtain ⟨ρ2, e2, e3⟩ := bind_some e2
    exact ⟨x, y, z, ρ1, ρ2, hi, e1, e2, e3⟩
  cases d <;> try (exact absurd e (by simp [asg]))
  all_goals
    rename_i ds
    refine fin ds rfl ?_
    match ds, e with
    | [x, y, z], _ => exact ⟨x, y, z, rfl⟩
    | [], e => exact absurd e (by simp [asg])
    | [x], e => exact absurd e (by simp [asg])
    | [x, y], e => exact absurd e (by simp [asg])
    | x :: y :: z :: u :: w, e => exact absurd e (by simp [asg])
theorem asg4 {a b c f : G} {d : PyData} {ρ ρ' : Sl} (e : asg (.fou a b c f) d ρ = some ρ') : ∃ x y z u ρ1 ρ2 ρ3, itemsOf d = some [x, y, z, u] ∧ asg a x ρ = some ρ1 ∧ asg b y ρ1 = some ρ2 ∧ asg c z ρ2 = some ρ3 ∧ asg f u ρ3 = some ρ' := by
  have fin : ∀ ds : List PyData, itemsOf d = some ds → (∃ x y z u, ds = [x, y, z, u]) → ∃ x y z u ρ1 ρ2 ρ3, itemsOf d = some [x, y, z, u] ∧ asg a x ρ = some ρ1 ∧ asg b y ρ1 = some ρ2 ∧ asg c z ρ2 = some ρ3 ∧ asg f u ρ3 = some ρ' := by
    rintro ds hi ⟨x, y, z, u, rfl⟩
    have e : ((asg a x ρ).bind fun ρ1 => (asg b y ρ1).bind fun ρ2 => (asg c z ρ2).bind fun ρ3 => asg f u ρ3) = some ρ' := by cases d <;> cases hi <;> exact e
    obtain ⟨ρ1, e1, e2⟩ := bind_some e
    obtain ⟨ρ2, e2, e3⟩ := bind_some e2
    obtain ⟨ρ3, e3, e4⟩ := bind_some e3
    exact ⟨x, y, z, u, ρ1, ρ2, ρ3, hi, e1, e2, e3, e4⟩
  cases d <;> try (exact absurd e (by simp [asg]))
  all_goals
    rename_i ds
    refine fin ds rfl ?_
    match ds, e with
    | [x, y, z, u], _ => exact ⟨x, y, z, u, rfl⟩
    | [], e => exact absurd e (by simp [asg])
    | [x], e => exact absurd e (by simp [asg])
    | [x, y], e => exact absurd e (by simp [asg])
    | [x, y, z], e => exact absurd e (by simp [asg])
    | x :: y :: z :: u :: w :: w', e => exact absurd e (by simp [asg])
theorem soundG (gd : Good c k sc X) : ∀ {e : Expr} {g : G}, CG c sc e g → PG X e (tG X.K g)
  | _, _, .nm (i := i) h1 h2 => by
    refine PG.imp (pg_name (i := i) (by rw [gd.hN]; exact gd.nd) (by rw [gd.hN]; exact h1) (gd.loc h2).1 (gd.loc h2).2) fun v σ H Q ⟨O, H0, A, ρ, ρ', d, ok, r, e, q⟩ => ?_
    cases e
    exact q _ (ok.set r) fun vs hv => wipe_set (hv i (by simp [gslots]))
  | _, _, .two (a := a) (b := b) (ga := ga) (gb := gb) ha hb => by
    have na := noStarG ha
    have nb := noStarG hb
    have e0 : assignEach [a, b] X.env = [(false, assign a X.env), (false, assign b X.env)] := by rw [assignEach_cons na, assignEach_cons nb]; rfl
    refine PG.imp (pg_seq (n := 2) gd.calm (pgs_cons' (soundG gd ha) (pgs_cons' (soundG gd hb) pgs_nil nb) na) (by rw [e0]; rfl) (by rw [e0]; rfl)) fun v σ H Q ⟨O, H0, A, ρ, ρ', d, ok, r, e, q⟩ => ?_
    obtain ⟨x, y, ρ1, hi, e1, e2⟩ := asg2 e
    obtain ⟨p, xs, rfl, h1, h2⟩ := rp_items r hi
    cases h2 with
    | cons r1 t =>
      cases t with
      | cons r2 t =>
        cases t
        rcases h1 with h1 | h1
        · left
          refine ⟨p, _, rfl, h1, rfl, _, _, rfl, ⟨O, H0, A, ρ, ρ1, x, ok, r1, e1, fun σ1 ok1 w1 => ⟨_, _, rfl, ⟨O, H0, A, ρ1, ρ', y, ok1, r2, e2, fun σ2 ok2 w2 => ⟨rfl, q σ2 ok2 fun vs hv => ?_⟩⟩⟩⟩⟩
          rw [w2 vs fun i hi => hv i (by simp [gslots, hi]), w1 vs fun i hi => hv i (by simp [gslots, hi])]
        · right
          refine ⟨p, _, rfl, h1, rfl, _, _, rfl, ⟨O, H0, A, ρ, ρ1, x, ok, r1, e1, fun σ1 ok1 w1 => ⟨_, _, rfl, ⟨O, H0, A, ρ1, ρ', y, ok1, r2, e2, fun σ2 ok2 w2 => ⟨rfl, q σ2 ok2 fun vs hv => ?_⟩⟩⟩⟩⟩
          rw [w2 vs fun i hi => hv i (by simp [gslots, hi]), w1 vs fun i hi => hv i (by simp [gslots, hi])]
  | _, _, .thr (a := a) (b := b) (d := b2) (ga := ga) (gb := gb) (gd := gb2) ha hb hb2 => by
    have na := noStarG ha
    have nb := noStarG hb
    have nb2 := noStarG hb2
    have e0 : assignEach [a, b, b2] X.env = [(false, assign a X.env), (false, assign b X.env), (false, assign b2 X.env)] := by rw [assignEach_cons na, assignEach_cons nb, assignEach_cons nb2]; rfl
    refine PG.imp (pg_seq (n := 3) gd.calm (pgs_cons' (soundG gd ha) (pgs_cons' (soundG gd hb) (pgs_cons' (soundG gd hb2) pgs_nil nb2) nb) na) (by rw [e0]; rfl) (by rw [e0]; rfl)) fun v σ H Q ⟨O, H0, A, ρ, ρ', d, ok, r, e, q⟩ => ?_
    obtain ⟨x, y, z, ρ1, ρ2, hi, e1, e2, e3⟩ := asg3 e
    obtain ⟨p, xs, rfl, h1, h2⟩ := rp_items r hi
    cases h2 with
    | cons r1 t =>
      cases t with
      | cons r2 t =>
        cases t with
        | cons r3 t =>
          cases t
          rcases h1 with h1 | h1
          · left
            refine ⟨p, _, rfl, h1, rfl, _, _, rfl, ⟨O, H0, A, ρ, ρ1, x, ok, r1, e1, fun σ1 ok1 w1 => ⟨_, _, rfl, ⟨O, H0, A, ρ1, ρ2, y, ok1, r2, e2, fun σ2 ok2 w2 => ⟨_, _, rfl, ⟨O, H0, A, ρ2, ρ', z, ok2, r3, e3, fun σ3 ok3 w3 => ⟨rfl, q σ3 ok3 fun vs hv => ?_⟩⟩⟩⟩⟩⟩⟩
            rw [w3 vs fun i hi => hv i (by simp [gslots, hi]), w2 vs fun i hi => hv i (by simp [gslots, hi]), w1 vs fun i hi => hv i (by simp [gslots, hi])]
          · right
            refine ⟨p, _, rfl, h1, rfl, _, _, rfl, ⟨O, H0, A, ρ, ρ1, x, ok, r1, e1, fun σ1 ok1 w1 => ⟨_, _, rfl, ⟨O, H0, A, ρ1, ρ2, y, ok1, r2, e2, fun σ2 ok2 w2 => ⟨_, _, rfl, ⟨O, H0, A, ρ2, ρ', z, ok2, r3, e3, fun σ3 ok3 w3 => ⟨rfl, q σ3 ok3 fun vs hv => ?_⟩⟩⟩⟩⟩⟩⟩
            rw [w3 vs fun i hi => hv i (by simp [gslots, hi]), w2 vs fun i hi => hv i (by simp [gslots, hi]), w1 vs fun i hi => hv i (by simp [gslots, hi])]
  | _, _, .fou (a := a) (b := b) (d := b2) (e := b3) (ga := ga) (gb := gb) (gd := gb2) (ge := gb3) ha hb hb2 hb3 => by
    have na := noStarG ha
    have nb := noStarG hb
    have nb2 := noStarG hb2
    have nb3 := noStarG hb3
    have e0 : assignEach [a, b, b2, b3] X.env = [(false, assign a X.env), (false, assign b X.env), (false, assign b2 X.env), (false, assign b3 X.env)] := by rw [assignEach_cons na, assignEach_cons nb, assignEach_cons nb2, assignEach_cons nb3]; rfl
    refine PG.imp (pg_seq (n := 4) gd.calm (pgs_cons' (soundG gd ha) (pgs_cons' (soundG gd hb) (pgs_cons' (soundG gd hb2) (pgs_cons' (soundG gd hb3) pgs_nil nb3) nb2) nb) na) (by rw [e0]; rfl) (by rw [e0]; rfl)) fun v σ H Q ⟨O, H0, A, ρ, ρ', d, ok, r, e, q⟩ => ?_
    obtain ⟨x, y, z, u, ρ1, ρ2, ρ3, hi, e1, e2, e3, e4⟩ := asg4 e
    obtain ⟨p, xs, rfl, h1, h2⟩ := rp_items r hi
    cases h2 with
    | cons r1 t =>
      cases t with
      | cons r2 t =>
        cases t with
        | cons r3 t =>
          cases t with
          | cons r4 t =>
            cases t
            rcases h1 with h1 | h1
            · left
              refine ⟨p, _, rfl, h1, rfl, _, _, rfl, ⟨O, H0, A, ρ, ρ1, x, ok, r1, e1, fun σ1 ok1 w1 => ⟨_, _, rfl, ⟨O, H0, A, ρ1, ρ2, y, ok1, r2, e2, fun σ2 ok2 w2 => ⟨_, _, rfl, ⟨O, H0, A, ρ2, ρ3, z, ok2, r3, e3, fun σ3 ok3 w3 => ⟨_, _, rfl, ⟨O, H0, A, ρ3, ρ', u, ok3, r4, e4, fun σ4 ok4 w4 => ⟨rfl, q σ4 ok4 fun vs hv => ?_⟩⟩⟩⟩⟩⟩⟩⟩⟩
              rw [w4 vs fun i hi => hv i (by simp [gslots, hi]), w3 vs fun i hi => hv i (by simp [gslots, hi]), w2 vs fun i hi => hv i (by simp [gslots, hi]), w1 vs fun i hi => hv i (by simp [gslots, hi])]
            · right
              refine ⟨p, _, rfl, h1, rfl, _, _, rfl, ⟨O, H0, A, ρ, ρ1, x, ok, r1, e1, fun σ1 ok1 w1 => ⟨_, _, rfl, ⟨O, H0, A, ρ1, ρ2, y, ok1, r2, e2, fun σ2 ok2 w2 => ⟨_, _, rfl, ⟨O, H0, A, ρ2, ρ3, z, ok2, r3, e3, fun σ3 ok3 w3 => ⟨_, _, rfl, ⟨O, H0, A, ρ3, ρ', u, ok3, r4, e4, fun σ4 ok4 w4 => ⟨rfl, q σ4 ok4 fun vs hv => ?_⟩⟩⟩⟩⟩⟩⟩⟩⟩
              rw [w4 vs fun i hi => hv i (by simp [gslots, hi]), w3 vs fun i hi => hv i (by simp [gslots, hi]), w2 vs fun i hi => hv i (by simp [gslots, hi]), w1 vs fun i hi => hv i (by simp [gslots, hi])]
/-- within a comprehension's block -/
theorem good_blk (gd : Good c k sc X) {scope : Scope} {own : List (Str × Nat)} (hb : blkC c.N ⟨.function, sc, false, false, []⟩ scope own = true) (s : Shared) (H : Hp) (C : Addr) (cl : List (Str × Addr)) (fp : List Addr) :
    Good c k scope.names (X.blk s H scope (compEnvC scope cl C X.env) fp) := by
  have ok := blkOk_by hb
  have hsc : (compEnvC scope cl C X.env).scope = relS scope X.env.scope := rfl
  refine ⟨gd.hN, gd.nd, gd.calm, ok.kind, fun x h => ?_, fun x h => ⟨?_, ?_⟩, fun x h => ?_, fun x h => ?_, gd.still, gd.room, PassesOwn.never, gd.fns, gd.blt, gd.csts⟩
  · exact lookup_relS_keep (sc := X.env.scope) (by decide) h
  · exact lookup_relS_keep (sc := X.env.scope) (by decide) h
  · show (scope.names.lookup x == some .cell) = true
    rw [h]; rfl
  · -- a free name is a cell of the block or free there
    have : ∃ k, (compEnvC scope cl C X.env).scope.names.lookup x = some k := by
      rw [hsc]
      have hm := PySem.mem_of_lookup h
      have : ∃ k, (x, k) ∈ (relS scope X.env.scope).names := by
        by_cases hc : (NameKind.free == NameKind.free && X.env.scope.kind == .function && X.env.scope.names.lookup x == some .cell) = true
        · exact ⟨.cell, List.mem_map.mpr ⟨(x, .free), hm, if_pos hc⟩⟩
        · exact ⟨.free, List.mem_map.mpr ⟨(x, .free), hm, if_neg hc⟩⟩
      obtain ⟨k, hk⟩ := this
      exact mem_lookup hk
    obtain ⟨k', hk'⟩ := this
    show (compEnvC scope cl C X.env).scope.names.lookup x = some .cell ∨ (compEnvC scope cl C X.env).scope.names.lookup x = some .free
    rw [hk']
    obtain ⟨k2, e1, e2⟩ := lookup_relS (sc := X.env.scope) (by rw [hsc] at hk'; exact hk')
    rw [h] at e1
    cases e1
    rcases e2 with e2 | ⟨_, e2⟩
    · exact .inr (by rw [e2])
    · exact .inl (by rw [e2])
  · exact lookup_relS_keep (sc := X.env.scope) (by decide) h
theorem blk_ok (gd : Good c k sc X) {scope : Scope} {own : List (Str × Nat)} (hb : blkC c.N ⟨.function, sc, false, false, []⟩ scope own = true) : BlkOk X.N X.env.scope scope own := by
  have ok := blkOk_by hb
  refine ⟨ok.kind, ok.uniq, by rw [gd.hN]; exact ok.ix, fun y hy e => ?_, by rw [gd.hN]; exact ok.own⟩
  rcases ok.free y hy e with h | h
  · exact .inl (gd.cl _ h).1
  · exact gd.fr _ h
end
end PV

set_option Elab.async false
set_option linter.all false
set_option maxRecDepth 100000
set_option maxHeartbeats 4000000
/-! PV7: soundness of expressions. -/
namespace PV
open PySem PySem.Spec PyProof.Rows L2

/-! ### small facts of the text -/
theorem starEach_cons {e : Expr} {es : List Expr} {env : Env} (h : noStar e = true) : starEach (e :: es) env = (false, eval e env) :: starEach es env := by
  cases e <;> first | rfl | cases h
theorem ces_star {c : Cfg} : ∀ {sc : Sc} {es : List Expr} {xs : Es}, CEs c sc es xs → ∀ (pos : Pos) (env : Env), (backTo pos (starEach es env)).any (·.1) = false
  | _, _, _, .nil, _, _ => rfl
  | _, _, _, .cons h n t, pos, env => by
    rw [starEach_cons n]
    show (false || (backTo pos (starEach _ env)).any (·.1)) = false
    rw [ces_star t]; rfl
theorem plain_ix {b : Expr} (h : noSlice b = true) : PlainIx b := fun o i => by
  cases b <;> first | rfl | cases h
theorem noset_of {iter : Expr} (h : noSet iter = true) (env : Env) (x : Value) : foldedSetIterable iter env x = pure x := by
  cases iter <;> first | rfl | cases h
theorem wipe_wipe {σ : L2.St} : ∀ {vs us : List Nat}, (∀ i ∈ us, i ∈ vs) → wipe (wipe σ us) vs = wipe σ vs
  | vs, [], _ => rfl
  | vs, u :: us, h => by
    show wipe ((wipe σ us).set u none) vs = wipe σ vs
    rw [wipe_set (h u List.mem_cons_self), wipe_wipe fun i hi => h i (List.mem_cons_of_mem _ hi)]
theorem boot_bi {b : BI} {f : Str} (h : biName b = some f) : f ∈ builtinsUsed ∧ (f ≠ "__name__") ∧ (f == ("__debug__" : Str)) = false := by
  cases b <;> cases h <;> exact ⟨by decide +kernel, by decide +kernel, by decide +kernel⟩
theorem boot_is {b : BI} {f : Str} (h : isName b = some f) : f ∈ builtinsUsed ∧ (f ≠ "__name__") ∧ (f == ("__debug__" : Str)) = false := by
  cases b <;> cases h <;> exact ⟨by decide +kernel, by decide +kernel, by decide +kernel⟩

section
variable {X : Cx}
def Both (X : Cx) (e : Expr) (x : E) : Prop := (∀ b, PE X e (tE X.K x b)) ∧ PT X e (tT X.K x)
theorem evT_inv {x : E} {ρ : Sl} {k : Bool} (h : evT x ρ = some k) : ∃ r : R, evE x true ρ = some r ∧ r.2 = .bool k := by
  obtain ⟨r, e, h⟩ := bind_some h
  refine ⟨r, e, ?_⟩
  split at h
  · rename_i k' e2; cases h; exact e2
  · cases h
theorem rpB_bool {K : PySem.W.Frag} {H : Hp} {P : Set0} {v : V} {r : R} {k : Bool} (h : RpB K H P v r.2) (e : r.2 = .bool k) : v = .bl k := by
  rw [e] at h; exact h.bool
theorem rpB_int {K : PySem.W.Frag} {H : Hp} {P : Set0} {v : V} {r : R} {k : Int} (h : RpB K H P v r.2) (e : r.2 = .int k) : v = .int k := by
  rw [e] at h; exact h.int
/-- a test that is a plain value -/
theorem both_plain {e : Expr} {x : E} (h : ∀ b, PE X e (tE X.K x b)) (hp : ∀ whole, isTrue e X.env whole = (do let v ← whole; standAt e.pos; holding [v] (truthy v))) : Both X e x := by
  refine ⟨h, PT.imp (pt_val (h true) hp) fun σ H Q ⟨O, H0, A, ρ, k, ok, ev, q⟩ => ?_⟩
  obtain ⟨r, e1, e2⟩ := evT_inv ev
  exact ⟨O, H0, A, ρ, r, ok, e1, fun v H' s h => ⟨k, rpB_bool (rpB_of ok s h) e2, q H' s⟩⟩
theorem rpX_bl {K : PySem.W.Frag} {H0 H : Hp} {O P : Set0} {b k : Bool} : RpX K H0 H O P b (.bl k) (false, .bool k) := RpX.sh (.bl k)

/-! ### one construct each, from its parts -/
variable {c : Cfg} {k : Nat} {sc : Sc}
theorem s_bin {o : BOp} {a b : Expr} {pos : Pos} {x y : E} (ha : Both X a x) (hb : Both X b y) (bb : Bool) : PE X (.BinOp a (opOf o) b pos) (tE X.K (.bin o x y) bb) := by
  refine PE.imp (pe_op (op_bin o) (ha.1 true) (hb.1 true)) fun σ H Q ⟨O, H0, A, ρ, r, ok, ev, q⟩ => ?_
  simp only [evE] at ev
  obtain ⟨r1, e1, ev⟩ := bind_some ev
  obtain ⟨r2, e2, ev⟩ := bind_some ev
  exact ⟨O, H0, A, ρ, r1, ok, e1, fun v1 H1 s1 h1 => ⟨O, H0, A, ρ, r2, ok.same s1, e2, fun v2 H2 s2 h2 => ⟨Ow O A, _, _, r, fun a z => ((ok.same s1).same s2).own_some z, (rpB_of ok s1 h1).same s2, rpB_of (ok.same s1) s2 h2, ev, fun v H' s3 h3 =>
    q v H' (s1.trans (s2.trans s3)) (RpX.up (s1.trans s2) h3.toX)⟩⟩⟩
theorem s_neg {a : Expr} {pos : Pos} {x : E} (ha : Both X a x) (bb : Bool) : PE X (.UnaryOp .USub a pos) (tE X.K (.neg x) bb) := by
  refine PE.imp (pe_un op_neg (ha.1 true)) fun σ H Q ⟨O, H0, A, ρ, r, ok, ev, q⟩ => ?_
  simp only [evE] at ev
  obtain ⟨r1, e1, ev⟩ := bind_some ev
  exact ⟨O, H0, A, ρ, r1, ok, e1, fun v1 H1 s1 h1 => ⟨Ow O A, _, r, rpB_of ok s1 h1, ev, fun v H' s3 h3 => q v H' (s1.trans s3) (RpX.up s1 h3.toX)⟩⟩
theorem s_cmp (hu : X.A.units + 64 < cLine) {o : COp} {a b : Expr} {pos : Pos} {x y : E} (ha : Both X a x) (hb : Both X b y) (hm : behindInMarks (copOf o) b = false) : Both X (.Compare a [copOf o] [b] pos) (.cmp o x y) := by
  refine ⟨fun bb => PE.imp (pe_cmpR (op_cmp hu o) (ha.1 true) (hb.1 true) hm) fun σ H Q ⟨O, H0, A, ρ, r, ok, ev, q⟩ => ?_,
    PT.imp (pt_cmpR (op_cmp hu o) (ha.1 true) (hb.1 true) hm) fun σ H Q ⟨O, H0, A, ρ, k, ok, ev, q⟩ => ?_⟩
  · simp only [evE] at ev
    obtain ⟨r1, e1, ev⟩ := bind_some ev
    obtain ⟨r2, e2, ev⟩ := bind_some ev
    obtain ⟨k, ev3, e3⟩ := map_some ev
    subst e3
    exact ⟨O, H0, A, ρ, r1, ok, e1, fun v1 H1 s1 h1 => ⟨O, H0, A, ρ, r2, ok.same s1, e2, fun v2 H2 s2 h2 => ⟨Ow O A, _, _, k, (rpB_of ok s1 h1).same s2, rpB_of (ok.same s1) s2 h2, ev3, q _ _ (s1.trans s2) rpX_bl⟩⟩⟩
  · obtain ⟨r, ev, e3⟩ := evT_inv ev
    simp only [evE] at ev
    obtain ⟨r1, e1, ev⟩ := bind_some ev
    obtain ⟨r2, e2, ev⟩ := bind_some ev
    obtain ⟨k', ev3, e4⟩ := map_some ev
    subst e4
    cases e3
    exact ⟨O, H0, A, ρ, r1, ok, e1, fun v1 H1 s1 h1 => ⟨O, H0, A, ρ, r2, ok.same s1, e2, fun v2 H2 s2 h2 => ⟨Ow O A, _, _, k, (rpB_of ok s1 h1).same s2, rpB_of (ok.same s1) s2 h2, ev3, k, rfl, q _ (s1.trans s2)⟩⟩⟩
theorem s_chain (hu : X.A.units + 64 < cLine) {o p : COp} {a b d : Expr} {pos : Pos} {x y z : E} (ha : Both X a x) (hb : Both X b y) (hd : Both X d z) (hm : behindInMarks (copOf p) d = false) : Both X (.Compare a [copOf o, copOf p] [b, d] pos) (.chain o p x y z) := by
  have hm' : lastMarks [copOf o, copOf p] [b, d] = false := hm
  refine ⟨fun bb => PE.imp (pe_chain (op_cmp hu o) (op_cmp hu p) (ha.1 true) (hb.1 true) (hd.1 true) hm') fun σ H Q ⟨O, H0, A, ρ, r, ok, ev, q⟩ => ?_,
    PT.imp (pt_chain (op_cmp hu o) (op_cmp hu p) (ha.1 true) (hb.1 true) (hd.1 true) hm') fun σ H Q ⟨O, H0, A, ρ, kk, ok, ev, q⟩ => ?_⟩
  · simp only [evE] at ev
    obtain ⟨r1, e1, ev⟩ := bind_some ev
    obtain ⟨r2, e2, ev⟩ := bind_some ev
    obtain ⟨k1, e3, ev⟩ := bind_some ev
    refine ⟨O, H0, A, ρ, r1, ok, e1, fun v1 H1 s1 h1 => ⟨O, H0, A, ρ, r2, ok.same s1, e2, fun v2 H2 s2 h2 => ⟨Ow O A, _, _, k1, (rpB_of ok s1 h1).same s2, rpB_of (ok.same s1) s2 h2, e3, k1, rfl, ?_⟩⟩⟩
    cases k1 with
    | false =>
      rw [if_neg Bool.false_ne_true]
      cases ev
      exact q _ _ (s1.trans s2) rpX_bl
    | true =>
      rw [if_pos rfl]
      obtain ⟨r3, e4, ev⟩ := bind_some ev
      obtain ⟨k2, e5, e6⟩ := map_some ev
      subst e6
      exact ⟨O, H0, A, ρ, r3, (ok.same s1).same s2, e4, fun v3 H3 s3 h3 => ⟨Ow O A, _, _, k2, (rpB_of (ok.same s1) s2 h2).same s3, rpB_of ((ok.same s1).same s2) s3 h3, e5, q _ _ (s1.trans (s2.trans s3)) rpX_bl⟩⟩
  · obtain ⟨r, ev, e9⟩ := evT_inv ev
    simp only [evE] at ev
    obtain ⟨r1, e1, ev⟩ := bind_some ev
    obtain ⟨r2, e2, ev⟩ := bind_some ev
    obtain ⟨k1, e3, ev⟩ := bind_some ev
    refine ⟨O, H0, A, ρ, r1, ok, e1, fun v1 H1 s1 h1 => ⟨O, H0, A, ρ, r2, ok.same s1, e2, fun v2 H2 s2 h2 => ⟨Ow O A, _, _, k1, (rpB_of ok s1 h1).same s2, rpB_of (ok.same s1) s2 h2, e3, k1, rfl, ?_⟩⟩⟩
    cases k1 with
    | false =>
      rw [if_neg Bool.false_ne_true]
      cases ev
      cases e9
      exact ⟨false, rfl, q _ (s1.trans s2)⟩
    | true =>
      rw [if_pos rfl]
      obtain ⟨r3, e4, ev⟩ := bind_some ev
      obtain ⟨k2, e5, e6⟩ := map_some ev
      subst e6
      cases e9
      exact ⟨O, H0, A, ρ, r3, (ok.same s1).same s2, e4, fun v3 H3 s3 h3 => ⟨Ow O A, _, _, kk, (rpB_of (ok.same s1) s2 h2).same s3, rpB_of ((ok.same s1).same s2) s3 h3, e5, kk, rfl, q _ (s1.trans (s2.trans s3))⟩⟩
theorem s_not {a : Expr} {pos : Pos} {x : E} (ha : Both X a x) : Both X (.UnaryOp .Not a pos) (.not x) := by
  refine ⟨fun bb => PE.imp (pe_not (ha.1 true)) fun σ H Q ⟨O, H0, A, ρ, r, ok, ev, q⟩ => ?_, PT.imp (pt_not ha.2) fun σ H Q ⟨O, H0, A, ρ, kk, ok, ev, q⟩ => ?_⟩
  · simp only [evE] at ev
    obtain ⟨r1, e1, ev⟩ := bind_some ev
    split at ev
    · rename_i k1 e2
      cases ev
      exact ⟨O, H0, A, ρ, r1, ok, e1, fun v1 H1 s1 h1 => ⟨k1, rpB_bool (rpB_of ok s1 h1) e2, q _ _ s1 rpX_bl⟩⟩
    · cases ev
  · obtain ⟨r, ev, e9⟩ := evT_inv ev
    simp only [evE] at ev
    obtain ⟨r1, e1, ev⟩ := bind_some ev
    split at ev
    · rename_i k1 e2
      cases ev
      cases e9
      refine ⟨O, H0, A, ρ, k1, ok, ?_, fun H1 s1 => q _ s1⟩
      unfold evT
      rw [e1]
      show (match r1.2 with | .bool k => some k | _ => none) = some k1
      rw [e2]
    · cases ev
theorem evT_of {x : E} {ρ : Sl} {r : R} {k : Bool} (e : evE x true ρ = some r) (e2 : r.2 = .bool k) : evT x ρ = some k := by
  unfold evT
  rw [e]
  show (match r.2 with | .bool k => some k | _ => none) = some k
  rw [e2]
theorem s_ite {t a b : Expr} {pos : Pos} {z x y : E} (ht : Both X t z) (ha : Both X a x) (hb : Both X b y) (bb : Bool) : PE X (.IfExp t a b pos) (tE X.K (.ite z x y) bb) := by
  refine PE.imp (pe_ifExp ht.2 (ha.1 bb) (hb.1 bb)) fun σ H Q ⟨O, H0, A, ρ, r, ok, ev, q⟩ => ?_
  simp only [evE] at ev
  obtain ⟨r1, e1, ev⟩ := bind_some ev
  split at ev
  · rename_i e2
    exact ⟨O, H0, A, ρ, true, ok, evT_of e1 e2, fun H1 s1 => by show tE X.K x bb σ H1 Q; exact ⟨O, H0, A, ρ, r, ok.same s1, ev, fun v H' s h => q v H' (s1.trans s) (h.up s1)⟩⟩
  · rename_i e2
    exact ⟨O, H0, A, ρ, false, ok, evT_of e1 e2, fun H1 s1 => by show tE X.K y bb σ H1 Q; exact ⟨O, H0, A, ρ, r, ok.same s1, ev, fun v H' s h => q v H' (s1.trans s) (h.up s1)⟩⟩
  · cases ev
theorem isTrue_ifExp {t a b : Expr} {pos : Pos} {env : Env} {whole : Sem Value} : isTrue (.IfExp t a b pos) env whole = (do if ← isTrue t env (eval t env) then isTrue a env (eval a env) else isTrue b env (eval b env)) := rfl
theorem s_iteT {t a b : Expr} {pos : Pos} {z x y : E} (ht : Both X t z) (ha : Both X a x) (hb : Both X b y) : PT X (.IfExp t a b pos) (tT X.K (.ite z x y)) := by
  refine ⟨fun pins s σ H Q I ⟨O, H0, A, ρ, kk, ok, ev, q⟩ => ?_⟩
  obtain ⟨r, ev, e9⟩ := evT_inv ev
  simp only [evE] at ev
  obtain ⟨r1, e1, ev⟩ := bind_some ev
  rw [isTrue_ifExp]
  split at ev
  · rename_i e2
    refine wpAny_bind (thn (ht.2.run pins s σ H (fun d H1 => d = true ∧ Same H H1) I ⟨O, H0, A, ρ, true, ok, evT_of e1 e2, fun H1 s1 => ⟨rfl, s1⟩⟩) fun d s1 ⟨H1, I1, e3, s1'⟩ => ?_)
    subst e3
    rw [if_pos rfl]
    exact ha.2.run pins s1 σ H1 Q I1 ⟨O, H0, A, ρ, kk, ok.same s1', evT_of ev e9, fun H2 s2 => q H2 (s1'.trans s2)⟩
  · rename_i e2
    refine wpAny_bind (thn (ht.2.run pins s σ H (fun d H1 => d = false ∧ Same H H1) I ⟨O, H0, A, ρ, false, ok, evT_of e1 e2, fun H1 s1 => ⟨rfl, s1⟩⟩) fun d s1 ⟨H1, I1, e3, s1'⟩ => ?_)
    subst e3
    rw [if_neg Bool.false_ne_true]
    exact hb.2.run pins s1 σ H1 Q I1 ⟨O, H0, A, ρ, kk, ok.same s1', evT_of ev e9, fun H2 s2 => q H2 (s1'.trans s2)⟩
  · cases ev
/-- displays -/
theorem s_tup {es : List Expr} {kk : Nat} {pos : Pos} {xs : Es} (h : ∀ b, PA X es (tEs X.K xs b)) (bb : Bool) : PE X (.Tuple es kk pos) (tE X.K (.tup xs) bb) := by
  refine PE.imp (pe_tup (h false)) fun σ H Q ⟨O, H0, A, ρ, r, ok, ev, q⟩ => ?_
  simp only [evE] at ev
  obtain ⟨ds, e1, ev⟩ := bind_some ev
  split at ev
  · rename_i hl
    cases ev
    refine ⟨O, H0, A, ρ, ds, ok, e1, fun vs H1 s1 hv => ?_⟩
    have hv : RpA X.K H1 (Ow O A) vs ds := hv
    refine ⟨by rw [hv.length]; exact lenOk_le hl, fun p hp => q _ _ (s1.trans (same_upd hp)) (RpX.sh ?_)⟩
    exact .tup (.inl ⟨.inl upd_same, (ok.same s1).fresh hp⟩) (hv.same (same_upd hp))
  · cases ev
theorem s_lst {es : List Expr} {pos : Pos} {xs : Es} (h : ∀ b, PA X es (tEs X.K xs b)) (bb : Bool) : PE X (.List es pos) (tE X.K (.lst xs) bb) := by
  refine PE.imp (pe_lst (h false)) fun σ H Q ⟨O, H0, A, ρ, r, ok, ev, q⟩ => ?_
  simp only [evE] at ev
  obtain ⟨ds, e1, ev⟩ := bind_some ev
  split at ev
  · rename_i hl
    cases ev
    refine ⟨O, H0, A, ρ, ds, ok, e1, fun vs H1 s1 hv => ?_⟩
    have hv : RpA X.K H1 (Ow O A) vs ds := hv
    refine ⟨by rw [hv.length]; exact lenOk_le hl, fun p hp => q _ _ (s1.trans (same_upd hp)) ⟨p, vs, ds, rfl, rfl, upd_same, s1.free hp, ?_⟩⟩
    exact RpA.keep (fun a o e _ => same_upd hp a o e) (fun a z => z.elim .inl fun e => .inr (by rw [e]; exact hp)) _ _ hv
  · cases ev
theorem s_ix {a b : Expr} {pos : Pos} {x y : E} (ha : Both X a x) (hb : Both X b y) (hs : noSlice b = true) (bb : Bool) : PE X (.Subscript a b pos) (tE X.K (.ix x y) bb) := by
  refine PE.imp (pe_ix ix_P (ha.1 true) (hb.1 true) (plain_ix hs)) fun σ H Q ⟨O, H0, A, ρ, r, ok, ev, q⟩ => ?_
  simp only [evE] at ev
  obtain ⟨r1, e1, ev⟩ := bind_some ev
  obtain ⟨r2, e2, ev⟩ := bind_some ev
  exact ⟨O, H0, A, ρ, r1, ok, e1, fun v1 H1 s1 h1 => ⟨O, H0, A, ρ, r2, ok.same s1, e2, fun v2 H2 s2 h2 => ⟨Ow O A, _, _, r, (rpB_of ok s1 h1).same s2, rpB_of (ok.same s1) s2 h2, ev, fun v H' s3 h3 =>
    q v H' (s1.trans (s2.trans s3)) (RpX.up (s1.trans s2) h3.toX)⟩⟩⟩
theorem s_po {lo : Option Expr} {l : Oe} (h : match lo, l with | none, .no => True | some e, .yes x => Both X e x | _, _ => False) : PO X lo (tP X.K l) := by
  match lo, l, h with
  | none, .no, _ =>
    refine PO.imp po_none fun σ H Q ⟨O, H0, A, ρ, r, ok, ev, q⟩ => ?_
    simp only [evP] at ev
    cases ev
    exact q _ (Same.refl H)
  | some e, .yes x, h =>
    refine PO.imp (po_some ((show Both X e x from h).1 true)) fun σ H Q ⟨O, H0, A, ρ, r, ok, ev, q⟩ => ?_
    simp only [evP] at ev
    obtain ⟨r1, e1, ev⟩ := bind_some ev
    split at ev
    · rename_i i e2
      cases ev
      exact ⟨O, H0, A, ρ, r1, ok, e1, fun v1 H1 s1 h1 => ⟨i, rpB_int (rpB_of ok s1 h1) e2, q _ s1⟩⟩
    · cases ev
theorem s_sl {a : Expr} {lo hi : Option Expr} {p pos : Pos} {x : E} {l h : Oe} (ha : Both X a x) (hl : PO X lo (tP X.K l)) (hh : PO X hi (tP X.K h)) (bb : Bool) : PE X (.Subscript a (.Slice lo hi none p) pos) (tE X.K (.sl x l h) bb) := by
  refine PE.imp (pe_slice sl_P (ha.1 true) hl hh) fun σ H Q ⟨O, H0, A, ρ, r, ok, ev, q⟩ => ?_
  simp only [evE] at ev
  obtain ⟨r1, e1, ev⟩ := bind_some ev
  obtain ⟨l1, e2, ev⟩ := bind_some ev
  obtain ⟨l2, e3, ev⟩ := bind_some ev
  exact ⟨O, H0, A, ρ, r1, ok, e1, fun v1 H1 s1 h1 => ⟨O, H0, A, ρ, l1, ok.same s1, e2, fun H2 s2 => ⟨O, H0, A, ρ, l2, (ok.same s1).same s2, e3, fun H3 s3 => ⟨Ow O A, _, r, fun a z => (((ok.same s1).same s2).same s3).own_some z, (rpB_of ok s1 h1).same (s2.trans s3), ev, fun v H' s4 h4 =>
    q v H' (s1.trans (s2.trans (s3.trans s4))) (RpX.up (s1.trans (s2.trans s3)) h4.toX)⟩⟩⟩⟩
/-- lists of arguments -/
theorem s_nil (b : Bool) : PA X [] (tEs X.K .nil b) := by
  refine PA.imp pa_nil fun σ H Q ⟨O, H0, A, ρ, ds, ok, ev, q⟩ => ?_
  simp only [evEs] at ev
  cases ev
  refine q [] H (Same.refl H) ?_
  cases b
  · exact .nil
  · exact .nil
theorem rpBs_same {K : PySem.W.Frag} {H H' : Hp} {P : Set0} {vs : List V} {ds : List PyData} (s : Same H H') (h : RpBs K H P vs ds) : RpBs K H' P vs ds := Paired.mapP h fun _ _ r => r.same s
theorem s_cons {e : Expr} {es : List Expr} {x : E} {xs : Es} (he : Both X e x) (n : noStar e = true) (hs : ∀ b, PA X es (tEs X.K xs b)) (b : Bool) : PA X (e :: es) (tEs X.K (.cons x xs) b) := by
  refine PA.imp (pa_cons (he.1 b) (hs b) (starEach_cons n)) fun σ H Q ⟨O, H0, A, ρ, ds, ok, ev, q⟩ => ?_
  simp only [evEs] at ev
  obtain ⟨r1, e1, ev⟩ := bind_some ev
  obtain ⟨ds2, e2, e3⟩ := map_some ev
  subst e3
  refine ⟨O, H0, A, ρ, r1, ok, e1, fun v1 H1 s1 h1 => ⟨O, H0, A, ρ, ds2, ok.same s1, e2, fun vs H2 s2 h2 => q _ H2 (s1.trans s2) ?_⟩⟩
  cases b with
  | false => exact .cons ((ok.down s1 h1.toR).same s2) h2
  | true => exact .cons ((rpB_of ok s1 h1).same s2) h2
/-- f(..) of the text's own -/
theorem rpBs_lend {K : PySem.W.Frag} {H : Hp} {P : Set0} : ∀ {vs : List V} {ds : List PyData}, RpBs K H P vs ds → RpA K H (fun _ => False) vs ds
  | _, _, .nil => .nil
  | _, _, .cons r t => .cons (by
      rcases r with r | ⟨a, xs, ds, e1, e2, e3, h⟩
      · exact r.less fun _ z => z.elim
      · subst e1 e2
        exact .lst (.inl e3) (fun z => z) (h.less fun _ z => z.elim)) (rpBs_lend t)
theorem s_call {f : Str} {F : Fn} {p : Pos} {e : Expr} {es : List Expr} {pos : Pos} {xs : Es} (gd : Good c k sc X) (hf : gli sc f) (ht : c.tab f = some F) (hd : (f == ("__debug__" : Str)) = false) (n : noStar e = true) (ns : (backTo pos (starEach es X.env)).any (·.1) = false)
    (hs : ∀ b, PA X (e :: es) (tEs X.K xs b)) (bb : Bool) : PE X (.Call (.Name f p) (e :: es) [] pos) (tE X.K (.call F xs) bb) := by
  obtain ⟨a, fd, ps, hm, hk, hb, hF⟩ := gd.fns f F ht
  have go : ∀ b, PE X (.Call (.Name f p) (e :: es) [] pos) (tCall (spF X.K F) [] E0 (tEs X.K xs b)) := fun b => pe_callG hF gd.still gd.room (gd.gl f hf) hm hk hb (hs b) hd (starEach_cons n) ns
  refine ⟨fun pins s σ H Q I ⟨O, H0, A, ρ, r, ok, ev, q⟩ => ?_⟩
  simp only [evE] at ev
  split at ev
  · obtain ⟨ds, e1, ev⟩ := bind_some ev
    obtain ⟨r', e2, ev⟩ := bind_some ev
    split at ev
    · rename_i hn
      cases ev
      refine (go true).run pins s σ H Q I ⟨O, H0, A, ρ, ds, ok, e1, fun vs H1 s1 hv => ?_⟩
      have hv : RpBs X.K H1 (Ow O A) vs ds := hv
      show spF X.K F (vs ++ []) H1 Q E0
      rw [List.append_nil]
      refine ⟨fun _ => False, ds, r, fun _ z => z.elim, rpBs_lend hv, e2, fun v H2 s2 h2 => q v H2 (s1.trans s2) (RpX.up s1 ?_)⟩
      have ok1 := ok.same s1
      have ok2 := ok1.same s2
      obtain ⟨fl, d⟩ := r
      cases fl with
      | false => exact RpX.sh (Rp.nolist (fun a z => ok2.own_lst z) d v hn h2)
      | true =>
        obtain ⟨p, zs, es', q1, q2, q3, q4, h3⟩ := h2
        have q2 : d = .list es' := q2
        subst q2
        refine ⟨p, zs, es', q1, rfl, q3, q4, RpA.nolist (fun a z => ?_) es' zs hn h3⟩
        rcases z with z | z
        · exact ok2.own_lst z
        · exact ⟨zs, by rw [z]; exact q3⟩
    · cases ev
  · obtain ⟨ds, e1, ev⟩ := bind_some ev
    refine (go false).run pins s σ H Q I ⟨O, H0, A, ρ, ds, ok, e1, fun vs H1 s1 hv => ?_⟩
    have hv : RpA X.K H1 (Ow O A) vs ds := hv
    show spF X.K F (vs ++ []) H1 Q E0
    rw [List.append_nil]
    exact ⟨Ow O A, ds, r, fun a z => (ok.same s1).own_lst z, hv, ev, fun v H2 s2 h2 => q v H2 (s1.trans s2) (RpX.up s1 h2.toX)⟩
theorem s_call0 {f : Str} {F : Fn} {p pos : Pos} (gd : Good c k sc X) (hf : gli sc f) (ht : c.tab f = some F) (hd : (f == ("__debug__" : Str)) = false) (bb : Bool) : PE X (.Call (.Name f p) [] [] pos) (tE X.K (.call F .nil) bb) := by
  obtain ⟨a, fd, ps, hm, hk, hb, hF⟩ := gd.fns f F ht
  refine ⟨fun pins s σ H Q I ⟨O, H0, A, ρ, r, ok, ev, q⟩ => ?_⟩
  have ev : F [] = some r := ev
  refine (pe_callG0 hF gd.still gd.room (gd.gl f hf) hm hk hb hd).run pins s σ H Q I ?_
  show spF X.K F ([] ++ []) H Q E0
  exact ⟨Ow O A, [], r, fun a z => ok.own_lst z, .nil, ev, fun v H2 s2 h2 => q v H2 s2 h2.toX⟩
/-- x[::-1] -/
theorem s_rev {a : Expr} {kk : Nat} {p1 p2 p3 pos : Pos} {x : E} (ha : Both X a x) (bb : Bool) : PE X (.Subscript a (.Slice none none (some (.UnaryOp .USub (.Constant (.int 1) kk p1) p2)) p3) pos) (tE X.K (.rev x) bb) := by
  refine PE.imp (pe_revB (ha.1 true)) fun σ H Q ⟨O, H0, A, ρ, r, ok, ev, q⟩ => ?_
  simp only [evE] at ev
  obtain ⟨r1, e1, ev⟩ := bind_some ev
  refine ⟨O, H0, A, ρ, r1, ok, e1, fun v1 H1 s1 h1 => ?_⟩
  have hb := rpB_of ok s1 h1
  have hP : ∀ a, Ow O A a → H1 a ≠ none := fun a z => (ok.same s1).own_some z
  obtain ⟨fl, d⟩ := r1
  cases d <;> try cases ev
  · rename_i ds
    obtain ⟨a, xs, rfl, hr, hx⟩ := hb.list
    exact ⟨a, xs, rfl, .inl ⟨.inl hr, fun p hp => Gives.new (Q := Q) hP (fun v H2 s2 h2 => q v H2 (s1.trans s2) (RpX.up s1 h2.toX)) hx.reverse p hp⟩⟩
  · rename_i ds
    obtain ⟨a, xs, rfl, hr, hx⟩ := hb.tuple
    exact ⟨a, xs, rfl, .inr ⟨hr, fun p hp => Gives.newT (Q := Q) hP (fun v H2 s2 h2 => q v H2 (s1.trans s2) (RpX.up s1 h2.toX)) hx.reverse p hp⟩⟩
/-- built-ins -/
theorem bi_imp {b : BI} {e : Expr} {xs : Es} (h : PE X e (tCB (rBI X.K b) (tEs X.K xs true))) (bb : Bool) : PE X e (tE X.K (.bi b xs) bb) := by
  refine PE.imp h fun σ H Q ⟨O, H0, A, ρ, r, ok, ev, q⟩ => ?_
  simp only [evE] at ev
  obtain ⟨ds, e1, ev⟩ := bind_some ev
  exact ⟨O, H0, A, ρ, ds, ok, e1, fun vs H1 s1 hv => ⟨Ow O A, ds, r, fun a z => (ok.same s1).own_some z, hv, ev, fun v H2 s2 h2 => q v H2 (s1.trans s2) (RpX.up s1 h2.toX)⟩⟩
theorem s_bi {b : BI} {f : Str} {p : Pos} {e : Expr} {es : List Expr} {pos : Pos} {xs : Es} (gd : Good c k sc X) (hf : gli sc f) (hb : biName b = some f) (n : noStar e = true) (ns : (backTo pos (starEach es X.env)).any (·.1) = false)
    (hs : ∀ b, PA X (e :: es) (tEs X.K xs b)) (bb : Bool) : PE X (.Call (.Name f p) (e :: es) [] pos) (tE X.K (.bi b xs) bb) := by
  obtain ⟨m1, m2, m3⟩ := boot_bi hb
  have hm := gd.blt f m1
  have hg := gd.gl f hf
  have hu := gd.room.units
  have hc := gd.calm
  have he : starEach (e :: es) X.env = (false, eval e X.env) :: starEach es X.env := starEach_cons n
  cases b <;> cases hb
  case len => exact bi_imp (pe_callB call_lenP hg hm PySem.boot_len (hs true) m2 m3 he ns) bb
  case abs => exact bi_imp (pe_callB call_absP hg hm PyProof.Rows.boot_abs (hs true) m2 m3 he ns) bb
  case int => exact bi_imp (pe_callTy call_intP hg hm (by decide +kernel) (hs true) m2 m3 he ns) bb
  case min => exact bi_imp (pe_callB (call_minP hc) hg hm PyProof.Rows.boot_min (hs true) m2 m3 he ns) bb
  case max => exact bi_imp (pe_callB (call_maxP hc) hg hm PyProof.Rows.boot_max (hs true) m2 m3 he ns) bb
  case sum => exact bi_imp (pe_callB (call_sumP hc) hg hm PyProof.Rows.boot_sum (hs true) m2 m3 he ns) bb
  case sorted => exact bi_imp (pe_callB (call_sortedP hu) hg hm (by decide +kernel) (hs true) m2 m3 he ns) bb
  case list => exact bi_imp (pe_callTy call_listP hg hm (by decide +kernel) (hs true) m2 m3 he ns) bb
  case tuple => exact bi_imp (pe_callTy call_tupleP hg hm (by decide +kernel) (hs true) m2 m3 he ns) bb
  case repr => exact bi_imp (pe_callB (call_reprP gd.still hu) hg hm PyProof.Rows.boot_repr (hs true) m2 m3 he ns) bb
theorem s_is {b : BI} {T : Str} {p p2 : Pos} {e : Expr} {pos : Pos} {x : E} (gd : Good c k sc X) (hf : gli sc "isinstance") (hT : gli sc T) (hb : isName b = some T) (he : Both X e x) (n : noStar e = true) (bb : Bool) :
    PE X (.Call (.Name "isinstance" p) [e, .Name T p2] [] pos) (tE X.K (.bi b (.cons x .nil)) bb) := by
  obtain ⟨m1, m2, m3⟩ := boot_is hb
  have hm := gd.blt T m1
  have hg := gd.gl T hT
  have hmi := gd.blt "isinstance" (by decide +kernel)
  have hgi := gd.gl _ hf
  have h0 : starEach [e, .Name T p2] X.env = (false, eval e X.env) :: starEach [.Name T p2] X.env := starEach_cons n
  have fin : ∀ {T' : String} {f : PyData → Bool}, bootBuiltins T = some (.type T') → CallR X (.builtin "isinstance") (rIs X.K T' f) → (∀ d, evBI b [d] = some (false, .bool (f d))) → PE X (.Call (.Name "isinstance" p) [e, .Name T p2] [] pos) (tE X.K (.bi b (.cons x .nil)) bb) := by
    intro T' f hv hc hd
    refine PE.imp (pe_callB hc hgi hmi PyProof.Rows.boot_isinstance (pa_cons (he.1 true) (pa_cons (pe_bltn (v := .ty T') hg hm hv rfl m2 m3) pa_nil) h0) (by decide +kernel) (by decide +kernel) h0 rfl) fun σ H Q ⟨O, H0, A, ρ, r, ok, ev, q⟩ => ?_
    simp only [evE, evEs] at ev
    obtain ⟨ds, e1, ev⟩ := bind_some ev
    obtain ⟨r1, e1', e2⟩ := bind_some e1
    cases e2
    rw [hd] at ev
    cases ev
    exact ⟨O, H0, A, ρ, r1, ok, e1', fun v1 H1 s1 h1 => ⟨Ow O A, v1, _, rfl, rpB_of ok s1 h1, q _ _ s1 rpX_bl⟩⟩
  cases b <;> cases hb
  case isInt => exact fin (by decide +kernel) call_isIntP fun _ => rfl
  case isBool => exact fin (by decide +kernel) call_isBoolP fun _ => rfl
  case isList => exact fin (by decide +kernel) call_isListP fun _ => rfl
  case isTuple => exact fin (by decide +kernel) call_isTupleP fun _ => rfl
  case isStr => exact fin (by decide +kernel) call_isStrP fun _ => rfl
/-- what is walked -/
theorem wk_list {K : PySem.W.Frag} {H1 : Hp} {a : Addr} {xs : List V} {ds : List PyData} {Kp : Hp → Prop} {P : Set0} (hr : ∀ H, Kp H → Rd H a (.lst xs)) (h2 : RpA K H1 P xs ds) : Wk K (Itl K a) Kp H1 P ds := by
  intro H hk i
  have h1 := hr H hk
  refine ⟨fun d hd => ?_, fun hi => ⟨xs, .inl h1, by rw [h2.length]; exact hi⟩⟩
  obtain ⟨v, hv, hr⟩ := h2.get hd
  refine ⟨⟨xs, v, .inl h1, hv⟩, fun x H' ⟨e, hy⟩ => ⟨e, ?_⟩⟩
  have := hy xs (.inl h1)
  rw [hv] at this
  cases this
  exact hr
theorem wk_tup {K : PySem.W.Frag} {H1 : Hp} {a : Addr} {xs : List V} {ds : List PyData} {Kp : Hp → Prop} {P : Set0} (hr : ∀ H, Kp H → SqT K H a xs) (h2 : RpA K H1 P xs ds) : Wk K (Itt K a) Kp H1 P ds := by
  intro H hk i
  have h1 := hr H hk
  refine ⟨fun d hd => ?_, fun hi => ⟨xs, h1, by rw [h2.length]; exact hi⟩⟩
  obtain ⟨v, hv, hr⟩ := h2.get hd
  refine ⟨⟨xs, v, h1, hv⟩, fun x H' ⟨e, hy⟩ => ⟨e, ?_⟩⟩
  have := hy xs h1
  rw [hv] at this
  cases this
  exact hr
theorem rng_get {lo : Int} {n i : Nat} {d : PyData} (h : (rngI lo n)[i]? = some d) : i < n ∧ d = .int (lo + i) := by
  unfold rngI at h
  rw [List.getElem?_map] at h
  by_cases hi : i < n
  · rw [List.getElem?_range hi] at h
    exact ⟨hi, (Option.some.inj h).symm⟩
  · rw [List.getElem?_eq_none (by simpa using hi)] at h; cases h
theorem rngS_get {lo st : Int} {n i : Nat} {d : PyData} (h : (rngS lo st n)[i]? = some d) : i < n ∧ d = .int (lo + i * st) := by
  unfold rngS at h
  rw [List.getElem?_map] at h
  by_cases hi : i < n
  · rw [List.getElem?_range hi] at h
    exact ⟨hi, (Option.some.inj h).symm⟩
  · rw [List.getElem?_eq_none (by simpa using hi)] at h; cases h
theorem wk_rng {K : PySem.W.Frag} {lo : Int} {n : Nat} {Kp : Hp → Prop} {H1 : Hp} {P : Set0} : Wk K (Itr lo n) Kp H1 P (rngI lo n) := by
  intro H hk i
  refine ⟨fun d hd => ?_, fun hi => show n ≤ i by unfold rngI at hi; simpa using hi⟩
  obtain ⟨hi, rfl⟩ := rng_get hd
  exact ⟨hi, fun x H' ⟨e, hx⟩ => ⟨e, by rw [hx]; exact .int _⟩⟩
theorem wk_rngS {K : PySem.W.Frag} {lo st : Int} {n : Nat} {Kp : Hp → Prop} {H1 : Hp} {P : Set0} : Wk K (Itc lo st n) Kp H1 P (rngS lo st n) := by
  intro H hk i
  refine ⟨fun d hd => ?_, fun hi => show n ≤ i by unfold rngS at hi; simpa using hi⟩
  obtain ⟨hi, rfl⟩ := rngS_get hd
  exact ⟨hi, fun x H' ⟨e, hx⟩ => ⟨e, by rw [hx]; exact .int _⟩⟩
/-- what is walked is a list or a tuple: PI of either kind -/
def iSeq (K : PySem.W.Frag) (tl : TE) : TI := fun σ H R => tl σ H fun x H1 => ∃ a, x = .ref a ∧ ((∃ xs, SqL K H1 a xs ∧ (xs.length ≤ sizeLine → R (Itl K a) H1)) ∨ (∃ xs, SqT K H1 a xs ∧ (xs.length ≤ sizeLine → R (Itt K a) H1)))
theorem pi_seq {tg l : Expr} {tl : TE} (hl : PE X l tl) : PI X tg l (iSeq X.K tl) := by
  refine ⟨fun pins s σ H R I h => ?_⟩
  refine thn (hl.run pins s σ H _ I h) fun v s1 ⟨x, H1, I1, r1, a, e, q⟩ => ?_
  subst e
  cases r1
  rcases q with ⟨xs, hq, q⟩ | ⟨xs, hq, q⟩
  · obtain ⟨its, rv, p, hz⟩ := I1.list hq
    refine wpAny_pyIter_list p.isList ?_
    refine ⟨s1.heap.objs.size, [s1.heap.objs.size], _, _, H1, rfl, I1.kept (t' := s1.toks) fun b o e => Heap.get?_push_of_some _ e, turn_list a _, ⟨_, Heap.get?_push_size _ rfl, rfl, rfl⟩, fun b hb => ?_, q hz⟩
    have e : b = s1.heap.objs.size := by simpa using hb
    subst e
    exact I1.fpOk (Nat.le_refl _) (I1.hok.fresh (Nat.le_refl _))
  · obtain ⟨its, rv, p, hz⟩ := I1.tuple hq
    refine wpAny_pyIter_tuple (show s1.heap.IsTuple a its.toArray from p) ?_
    refine ⟨s1.heap.objs.size, [s1.heap.objs.size], _, _, H1, rfl, I1.kept (t' := s1.toks) fun b o e => Heap.get?_push_of_some _ e, turn_tuple a _, ⟨_, Heap.get?_push_size _ rfl, rfl, rfl⟩, fun b hb => ?_, q hz⟩
    have e : b = s1.heap.objs.size := by simpa using hb
    subst e
    exact I1.fpOk (Nat.le_refl _) (I1.hok.fresh (Nat.le_refl _))
theorem s_seq {tg e : Expr} {x : E} (he : Both X e x) (b : Bool) : PI X tg e (tI X.K (.seq x) b) := by
  refine PI.imp (pi_seq (he.1 b)) fun σ H R ⟨O, H0, A, ρ, ds, ok, ev, q⟩ => ?_
  simp only [evI] at ev
  obtain ⟨r1, e1, ev2⟩ := bind_some ev
  refine ⟨O, H0, A, ρ, r1, ok, e1, fun v1 H1 s1 h1 => ?_⟩
  obtain ⟨fl, d⟩ := r1
  have ok1 := ok.same s1
  have hb : RpBO X.K H1 O (Ow O A) v1 d := rpBO_of ok s1 h1
  have shared : Rp X.K H1 (Ow O A) v1 d → itemsOf d = some ds → ∃ a, v1 = .ref a ∧ ((∃ xs, SqL X.K H1 a xs ∧ (xs.length ≤ sizeLine → R (Itl X.K a) H1)) ∨ (∃ xs, SqT X.K H1 a xs ∧ (xs.length ≤ sizeLine → R (Itt X.K a) H1))) := by
    intro hb ev
    have hkk : ∀ H', KpOf b H1 O (Ow O A) H' → ∀ a o, H1 a = some o → ¬ Ow O A a → H' a = some o := fun H' hk a o e n => by
      refine hk a o e fun z => n ?_
      cases b with
      | true => exact .inl z
      | false => exact z
    cases d <;> try cases ev
    · cases hb with
      | lst h2 h3 h4 => exact ⟨_, rfl, .inl ⟨_, .inl h2, fun hz => q _ H1 s1 (by rw [← h4.length]; exact hz) (wk_list (fun H' hk => rd_keep h2 (hkk H' hk) h3) h4)⟩⟩
    · cases hb with
      | @tup a xs _ h2 h4 =>
        have hq : SqT X.K H1 a xs := by
          rcases h2 with ⟨h2, _⟩ | h2
          · exact .inl h2
          · exact .inr h2
        refine ⟨_, rfl, .inr ⟨xs, hq, fun hz => q _ H1 s1 (by rw [← h4.length]; exact hz) (wk_tup (fun H' hk => ?_) h4)⟩⟩
        rcases h2 with ⟨h2, h3⟩ | h2
        · exact .inl (rd_keep h2 (hkk H' hk) h3)
        · exact .inr h2
  cases b with
  | false => exact shared (ok.down s1 h1.toR) ev2
  | true =>
    rcases hb with hb | ⟨a, xs, es, e1, e2, e3, e4, h⟩
    · exact shared hb ev2
    · have e2 : d = .list es := e2
      subst e1 e2
      cases ev2
      refine ⟨a, rfl, .inl ⟨_, .inl (.inl e3), fun hz => q _ H1 s1 (by rw [← h.length]; exact hz) (wk_list (fun H' hk => .inl (hk a _ e3 e4)) h)⟩⟩
end
end PV

set_option Elab.async false
set_option linter.all false
set_option maxRecDepth 100000
set_option maxHeartbeats 4000000
/-! PV8: ranges, comprehensions; all expressions. -/
namespace PV
open PySem PySem.Spec PyProof.Rows L2
section
variable {X : Cx} {c : Cfg} {k : Nat} {sc : Sc}
theorem evEs_cons {x : E} {xs : Es} {b : Bool} {ρ : Sl} {ds : List PyData} (h : evEs (.cons x xs) b ρ = some ds) : ∃ r es, evE x b ρ = some r ∧ evEs xs b ρ = some es ∧ ds = r.2 :: es := by
  simp only [evEs] at h
  obtain ⟨r, e1, h⟩ := bind_some h
  obtain ⟨es, e2, h⟩ := map_some h
  exact ⟨r, es, e1, e2, h.symm⟩
theorem evEs_nil {b : Bool} {ρ : Sl} {ds : List PyData} (h : evEs .nil b ρ = some ds) : ds = [] := by
  simp only [evEs] at h
  cases h; rfl
theorem smallI_of {i : Int} (h : smallI i = true) : -(2 ^ 62) ≤ i ∧ i < 2 ^ 62 := by
  unfold smallI at h
  rw [Bool.and_eq_true] at h
  have h1 := of_decide_eq_true h.1
  have h2 := of_decide_eq_true h.2
  constructor <;> omega
theorem evRng1 {d : PyData} {ds : List PyData} (h : evRng [d] = some ds) : ∃ i, d = .int i ∧ smallI i = true ∧ lenOk i.toNat = true ∧ ds = rngI 0 i.toNat := by
  cases d <;> try cases h
  rename_i i
  simp only [evRng] at h
  split at h
  · rename_i hc
    rw [Bool.and_eq_true] at hc
    cases h
    exact ⟨i, rfl, hc.1, hc.2, rfl⟩
  · cases h
theorem evRng2 {d e : PyData} {ds : List PyData} (h : evRng [d, e] = some ds) : ∃ i j, d = .int i ∧ e = .int j ∧ smallI i = true ∧ smallI j = true ∧ lenOk (j - i).toNat = true ∧ ds = rngI i (j - i).toNat := by
  cases d <;> cases e <;> try cases h
  rename_i i j
  simp only [evRng] at h
  split at h
  · rename_i hc
    rw [Bool.and_eq_true, Bool.and_eq_true] at hc
    cases h
    exact ⟨i, j, rfl, rfl, hc.1.1, hc.1.2, hc.2, rfl⟩
  · cases h
theorem evRng3 {d e f : PyData} {ds : List PyData} (h : evRng [d, e, f] = some ds) : ∃ i j st, d = .int i ∧ e = .int j ∧ f = .int st ∧ RgC i j st (rngN i j st) ∧ lenOk (rngN i j st) = true ∧ ds = rngS i st (rngN i j st) := by
  cases d <;> cases e <;> cases f <;> try cases h
  rename_i i j st
  simp only [evRng] at h
  split at h
  · rename_i hc
    simp only [Bool.and_eq_true] at hc
    obtain ⟨⟨⟨⟨c1, c2⟩, c3⟩, c4⟩, c5⟩ := hc
    cases h
    exact ⟨i, j, st, rfl, rfl, rfl, ⟨of_decide_eq_true c1, Nat.le_of_ble_eq_true c2, c3, of_decide_eq_true c5⟩, c4, rfl⟩
  · cases h
theorem rngI_len {lo : Int} {n : Nat} : (rngI lo n).length = n := by simp [rngI]
theorem rngS_len {lo st : Int} {n : Nat} : (rngS lo st n).length = n := by simp [rngS]
theorem s_rng {tg e : Expr} {es : List Expr} {xs : Es} {p pos : Pos} (gd : Good c k sc X) (hr : gli sc "range") (h : CEs c sc (e :: es) xs) (hl : es.length ≤ 2) (hs : ∀ b, PA X (e :: es) (tEs X.K xs b)) (b : Bool) : PI X tg (.Call (.Name "range" p) (e :: es) [] pos) (tI X.K (.rng xs) b) := by
  have hg := gd.gl _ hr
  have hm := gd.blt "range" (by decide +kernel)
  match es, hl, h, hs with
  | [], _, .cons _ n .nil, hs =>
    refine PI.imp (pi_range1 hg hm (hs true) (by rw [starEach_cons n]; rfl)) fun σ H R ⟨O, H0, A, ρ, ds, ok, ev, q⟩ => ?_
    simp only [evI] at ev
    obtain ⟨as, e1, ev2⟩ := bind_some ev
    refine ⟨O, H0, A, ρ, as, ok, e1, fun vs H1 s1 hv => ?_⟩
    have hv : RpBs X.K H1 (Ow O A) vs as := hv
    obtain ⟨r, fs, _, e3, rfl⟩ := evEs_cons e1
    cases evEs_nil e3
    obtain ⟨v, rfl, hv1⟩ := one hv
    obtain ⟨i, q1, q2, q3, rfl⟩ := evRng1 ev2
    obtain ⟨b1, b2⟩ := smallI_of q2
    exact ⟨i, by rw [rpB_int hv1 q1], b1, b2, q _ _ s1 (by rw [rngI_len]; exact lenOk_le q3) wk_rng⟩
  | [e2], _, .cons _ n (.cons _ n2 .nil), hs =>
    refine PI.imp (pi_range2 hg hm (hs true) (by rw [starEach_cons n, starEach_cons n2]; rfl) (by rw [starEach_cons n2]; rfl)) fun σ H R ⟨O, H0, A, ρ, ds, ok, ev, q⟩ => ?_
    simp only [evI] at ev
    obtain ⟨as, e1, ev2⟩ := bind_some ev
    refine ⟨O, H0, A, ρ, as, ok, e1, fun vs H1 s1 hv => ?_⟩
    have hv : RpBs X.K H1 (Ow O A) vs as := hv
    obtain ⟨r, fs, _, e3, rfl⟩ := evEs_cons e1
    obtain ⟨r2, fs, _, e4, rfl⟩ := evEs_cons e3
    cases evEs_nil e4
    obtain ⟨v, u, rfl, hv1, hu⟩ := two hv
    obtain ⟨i, j, q1, q2, q3, q4, q5, rfl⟩ := evRng2 ev2
    obtain ⟨b1, b2⟩ := smallI_of q3
    obtain ⟨b3, b4⟩ := smallI_of q4
    exact ⟨i, j, by rw [rpB_int hv1 q1, rpB_int hu q2], ⟨b1, b2, b3, b4⟩, q _ _ s1 (by rw [rngI_len]; exact lenOk_le q5) wk_rng⟩
  | [e2, e3], _, .cons _ n (.cons _ n2 (.cons _ n3 .nil)), hs =>
    refine PI.imp (pi_range3 hg hm (hs true) (by rw [starEach_cons n]) (by rw [starEach_cons n2, starEach_cons n3]; rfl)) fun σ H R ⟨O, H0, A, ρ, ds, ok, ev, q⟩ => ?_
    simp only [evI] at ev
    obtain ⟨as, e1, ev2⟩ := bind_some ev
    refine ⟨O, H0, A, ρ, as, ok, e1, fun vs H1 s1 hv => ?_⟩
    have hv : RpBs X.K H1 (Ow O A) vs as := hv
    obtain ⟨r, fs, _, e3, rfl⟩ := evEs_cons e1
    obtain ⟨r2, fs, _, e4, rfl⟩ := evEs_cons e3
    obtain ⟨r3, fs, _, e5, rfl⟩ := evEs_cons e4
    cases evEs_nil e5
    cases hv with
    | @cons v _ _ _ hv1 t =>
      obtain ⟨u, u2, rfl, hu, hu2⟩ := two t
      obtain ⟨i, j, st, q1, q2, q3, q4, q5, rfl⟩ := evRng3 ev2
      exact ⟨i, j, st, rngN i j st, by rw [rpB_int hv1 q1, rpB_int hu q2, rpB_int hu2 q3], q4, q _ _ s1 (by rw [rngS_len]; exact lenOk_le q5) wk_rngS⟩
  | _ :: _ :: _ :: _, hl, _, _ => exact absurd hl (by simp)
/-- a comprehension's test -/
theorem s_cno : PTs X [] (tC X.K .no) := by
  refine PTs.imp pts_nil fun σ H Q ⟨O, H0, A, ρ, kk, ok, ev, q⟩ => ?_
  simp only [evC] at ev
  cases ev
  exact q H (Same.refl H)
theorem s_cyes {e : Expr} {x : E} (h : Both X e x) : PTs X [e] (tC X.K (.yes x)) := by
  refine PTs.imp (pts_one h.2) fun σ H Q ⟨O, H0, A, ρ, kk, ok, ev, q⟩ => ?_
  simp only [evC] at ev
  exact ⟨O, H0, A, ρ, kk, ok, ev, q⟩
end
/-- a new list D stands by -/
theorem Ok.with {K : PySem.W.Frag} {O : Set0} {H0 H Hc : Hp} {A : Nat → Option Addr} {σ : L2.St} {ρ : Sl} {D : Addr} {acc : List V} (ok : Ok K O H0 A H σ ρ) (s : Same H Hc) (hn : H D = none) (hD : Hc D = some (.lst acc)) :
    Ok K (fun a => O a ∨ a = D) (L2.upd H0 D (.lst acc)) A Hc σ ρ := by
  have nA : ∀ i a, A i = some a → a ≠ D := fun i a e z => by
    obtain ⟨xs, q⟩ := ok.dom i a e
    rw [z, hn] at q; cases q
  have sub : ∀ a, Ow (fun a => O a ∨ a = D) A a → Ow O A a ∨ H a = none := fun a z => by
    rcases z with (z | z) | z
    · exact .inl (.inl z)
    · exact .inr (by rw [z]; exact hn)
    · exact .inl (.inr z)
  refine ⟨ok.len, fun a o e => ?_, ok.inj, fun i a e => ?_, fun i a e => ?_, fun a z => ?_, fun i r e => ?_⟩
  · by_cases ha : a = D
    · subst ha
      rw [upd_same] at e
      cases e; exact hD
    · rw [upd_ne ha] at e
      exact s _ _ (ok.grow _ _ e)
  · rw [upd_ne (nA i a e)]; exact ok.new i a e
  · obtain ⟨xs, q⟩ := ok.dom i a e
    exact ⟨xs, s _ _ q⟩
  · by_cases ha : a = D
    · exact ⟨acc, by rw [ha]; exact upd_same⟩
    · rcases z with z | z
      · obtain ⟨xs, q⟩ := ok.odom a z
        exact ⟨xs, by rw [upd_ne ha]; exact q⟩
      · exact absurd z ha
  · obtain ⟨v, e1, h⟩ := ok.val i r e
    refine ⟨v, e1, ?_⟩
    obtain ⟨fl, d⟩ := r
    cases fl with
    | false => exact Rp.keep (fun a o e _ => s a o e) sub _ _ h
    | true =>
      obtain ⟨a, xs, ds, q1, q2, q3, q4, h⟩ := h
      exact ⟨a, xs, ds, q1, q2, q3, s _ _ q4, RpA.keep (fun a o e _ => s a o e) sub _ _ h⟩
section
variable {X : Cx} {c : Cfg} {k : Nat} {sc : Sc}
theorem mem_of_all {l m : List Nat} (h : l.all (fun i => m.contains i) = true) : ∀ i ∈ l, i ∈ m := fun i hi => by
  have := List.all_eq_true.mp h i hi
  simpa using this
theorem compGo_cons {f : PyData → Option (Option PyData)} {d : PyData} {ds ys : List PyData} (h : compGo f (d :: ds) = some ys) : (f d = some none ∧ compGo f ds = some ys) ∨ ∃ y zs, f d = some (some y) ∧ compGo f ds = some zs ∧ ys = y :: zs := by
  unfold compGo at h
  split at h
  · cases h
  · rename_i e; exact .inl ⟨e, h⟩
  · rename_i y e
    split at h
    · cases h
    · rename_i zs e2
      cases h
      exact .inr ⟨y, zs, e, e2, rfl⟩
theorem compGo_len {f : PyData → Option (Option PyData)} : ∀ {ds ys : List PyData}, compGo f ds = some ys → ys.length ≤ ds.length
  | [], ys, h => by cases h; exact Nat.le_refl _
  | d :: ds, ys, h => by
    rcases compGo_cons h with ⟨_, h2⟩ | ⟨y, zs, _, h2, rfl⟩
    · exact Nat.le_succ_of_le (compGo_len h2)
    · exact Nat.succ_le_succ (compGo_len h2)
/-- one item more in the new list -/
theorem acc_more {K : PySem.W.Frag} {H : Hp} {P : Set0} {D : Addr} {acc : List V} {ys : List PyData} {v : V} {y : PyData} (hP : P D) (h : RpA K H P acc ys) (hv : Rp K H P v y) : RpA K (upd H D (.lst (acc ++ [v]))) P (acc ++ [v]) (ys ++ [y]) := by
  refine RpA.keep (fun a o e n => ?_) (fun _ z => .inl z) _ _ (h.append (.one hv))
  rw [upd_ne (fun z => n (by rw [z]; exact hP))]
  exact e
theorem rd_comp {K : PySem.W.Frag} {own : List (Str × Nat)} {g : G} {it : I} {t : Oe} {x : E} (hgs : (gslots g).all (fun i => (own.map (·.2)).contains i) = true) (bb : Bool) (σ : L2.St) (H : Hp) (Q : VK) (hq : tE K (.comp (own.map (·.2)) g it t x) bb σ H Q) :
    tLc (tI K it true) (tG K g) (tC K t) (tE K x false) (own.map (·.2)) σ H Q := by
  obtain ⟨O, H0, A, ρ, r, ok, ev, q⟩ := hq
  simp only [evE] at ev
  obtain ⟨ds, e1, ev⟩ := bind_some ev
  obtain ⟨ys, e2, e3⟩ := map_some ev
  subst e3
  generalize hF : (fun d => (asg g d (wipeR ρ (own.map (·.2)))).bind fun ρ2 => (evC t ρ2).bind fun k => match k with
      | false => some none
      | true => (evE x false ρ2).map fun r => some r.2) = F at e2
  refine ⟨O, H0, A, ρ, ds, ok, e1, fun J H1 s1 hz wk D hD => ?_⟩
  have hn : H D = none := s1.free hD
  refine ⟨fun i m Hc => m = ds.length - i ∧ i ≤ ds.length ∧ ∃ acc ys1 ys2, Hc D = some (.lst acc) ∧ RpA K Hc (fun a => Ow O A a ∨ a = D) acc ys1 ∧ Same H1 Hc ∧ compGo F (ds.drop i) = some ys2 ∧ ys = ys1 ++ ys2,
    ⟨ds.length, rfl, Nat.zero_le _, [], [], ys, upd_same, .nil, same_upd hD, e2, rfl⟩, ?_⟩
  rintro i m Hc ⟨rfl, hil, acc, ys1, ys2, hDc, hr, sm, e4, e5⟩
  by_cases hlt : i < ds.length
  · have hdr : ds.drop i = ds[i] :: ds.drop (i + 1) := List.drop_eq_getElem_cons hlt
    rw [hdr] at e4
    obtain ⟨go, yld⟩ := (wk Hc (KpOf.same sm) i).1 _ (List.getElem?_eq_getElem hlt)
    refine .inr ⟨go, fun H' => ∃ acc ys1 ys2, H' D = some (.lst acc) ∧ RpA K H' (fun a => Ow O A a ∨ a = D) acc ys1 ∧ Same H1 H' ∧ compGo F (ds.drop (i + 1)) = some ys2 ∧ ys = ys1 ++ ys2, fun H' h' => ⟨ds.length - (i + 1), by omega, rfl, hlt, h'⟩, fun v0 H' hy => ?_⟩
    obtain ⟨e6, hx⟩ := yld v0 H' hy
    subst e6
    have okD := ok.with (s1.trans sm) hn hDc
    have okW := okD.wipe (own.map (·.2))
    have hO : ∀ a, Ow (fun a => O a ∨ a = D) A a → Ow O A a ∨ H1 a = none := fun a z => by
      rcases z with (z | z) | z
      · exact .inl (.inl z)
      · exact .inr (by rw [z]; exact hD)
      · exact .inl (.inr z)
    have hx' : Rp K H' (Ow (fun a => O a ∨ a = D) A) v0 ds[i] := Rp.keep (fun a o e _ => sm a o e) hO _ _ hx
    have hFd : ∃ o, F ds[i] = some o ∧ ((o = none ∧ compGo F (ds.drop (i + 1)) = some ys2) ∨ ∃ y zs, o = some y ∧ compGo F (ds.drop (i + 1)) = some zs ∧ ys2 = y :: zs) := by
      rcases compGo_cons e4 with ⟨h1, h2⟩ | ⟨y, zs, h1, h2, h3⟩
      · exact ⟨none, h1, .inl ⟨rfl, h2⟩⟩
      · exact ⟨some y, h1, .inr ⟨y, zs, rfl, h2, h3⟩⟩
    obtain ⟨o, hFo, hoc⟩ := hFd
    rw [← hF] at hFo
    obtain ⟨ρ2, ea, ef⟩ := bind_some hFo
    obtain ⟨kk, ec, ef⟩ := bind_some ef
    refine ⟨_, _, A, _, ρ2, ds[i], okW, hx', ea, fun σ2 ok2 w2 => ⟨?_, ⟨_, _, A, ρ2, kk, ok2, ec, fun H3 s3 => ?_⟩⟩⟩
    · rw [w2 _ (mem_of_all hgs)]
      exact wipe_wipe fun _ h => h
    · cases kk with
      | false =>
        cases ef
        rcases hoc with ⟨_, h2⟩ | ⟨y, zs, h1, _⟩
        · exact ⟨acc, ys1, ys2, s3 _ _ hDc, hr.same s3, sm.trans s3, h2, e5⟩
        · cases h1
      | true =>
        obtain ⟨r', ee, er⟩ := map_some ef
        subst er
        rcases hoc with ⟨h1, _⟩ | ⟨y, zs, h1, h2, h3⟩
        · cases h1
        · cases h1
          subst h3
          refine ⟨_, _, A, ρ2, r', ok2.same s3, ee, fun v H4 s4 h4 => ⟨acc, s4 _ _ (s3 _ _ hDc), ?_, ?_⟩⟩
          · have l1 := compGo_len e2
            have l2 := hr.length
            rw [e5, List.length_append, List.length_cons] at l1
            omega
          · have hv : Rp K H4 (fun a => Ow O A a ∨ a = D) v r'.2 := ((ok2.same s3).down s4 h4.toR).less fun a z => by
              rcases z with (z | z) | z
              · exact .inl (.inl z)
              · exact .inr z
              · exact .inl (.inr z)
            refine ⟨acc ++ [v], ys1 ++ [r'.2], zs, upd_same, acc_more (.inr rfl) ((hr.same s3).same s4) hv, fun a o e => ?_, h2, by rw [e5, List.append_assoc]; rfl⟩
            rw [upd_ne (ne_of_none e hD)]
            exact s4 _ _ (s3 _ _ (sm _ _ e))
  · have hi' : i = ds.length := by omega
    subst hi'
    rw [List.drop_length] at e4
    cases e4
    rw [List.append_nil] at e5
    subst e5
    exact .inl ⟨(wk Hc (KpOf.same sm) _).2 (Nat.le_refl _), q _ Hc (s1.trans sm) ⟨D, acc, ys, rfl, rfl, hDc, hn, hr⟩⟩
theorem s_comp {elt tg iter : Expr} {ifs : List Expr} {scope : Scope} {pos : Pos} {own : List (Str × Nat)} {g : G} {it : I} {t : Oe} {x : E} (gd : Good c k sc X) (hi : ∀ b, PI X tg iter (tI X.K it b)) (hg : CG c scope.names tg g)
    (ht : ∀ {X' : Cx}, Good c k scope.names X' → PTs X' ifs (tC X'.K t)) (he : ∀ {X' : Cx}, Good c k scope.names X' → Both X' elt x)
    (hb : blkC c.N ⟨.function, sc, false, false, []⟩ scope own = true) (hgs : (gslots g).all (fun i => (own.map (·.2)).contains i) = true) (hs : noSet iter = true) (bb : Bool) :
    PE X (.ListComp elt [⟨tg, iter, ifs, 0⟩] scope pos) (tE X.K (.comp (own.map (·.2)) g it t x) bb) := by
  refine PE.imp (pe_lc (wi := tI X.K it true) (g := tG X.K g) (tt := tC X.K t) (te := tE X.K x false) gd.calm (by rw [gd.hN]; exact gd.nd) (hi true) (blk_ok gd hb) (fun s H C cl fp => soundG (good_blk gd hb s H C cl fp) hg) (fun s H C cl fp => ht (good_blk gd hb s H C cl fp)) (fun s H C cl fp => (he (good_blk gd hb s H C cl fp)).1 false)
    (noset_of hs X.env)) (rd_comp hgs bb)
theorem compGo2_cons {f : PyData → Option (List PyData)} {d : PyData} {ds ys : List PyData} (h : compGo2 f (d :: ds) = some ys) : ∃ xs zs, f d = some xs ∧ compGo2 f ds = some zs ∧ ys = xs ++ zs := by
  unfold compGo2 at h
  split at h
  · cases h
  · rename_i xs e
    split at h
    · cases h
    · rename_i zs e2
      cases h
      exact ⟨xs, zs, e, e2, rfl⟩
end
/-- the new list D has grown -/
theorem Ok.redo {K : PySem.W.Frag} {O : Set0} {H0 H Hc : Hp} {A : Nat → Option Addr} {σ : L2.St} {ρ : Sl} {D : Addr} {acc : List V} (ok : Ok K O H0 A H σ ρ) (hO : O D) (s : ∀ a o, a ≠ D → H a = some o → Hc a = some o) (hD : Hc D = some (.lst acc)) :
    Ok K O (L2.upd H0 D (.lst acc)) A Hc σ ρ := by
  obtain ⟨xs0, q0⟩ := ok.odom D hO
  have nA : ∀ i a, A i = some a → a ≠ D := fun i a e z => by
    have := ok.new i a e
    rw [z, q0] at this; cases this
  have k : ∀ a o, H a = some o → ¬ Ow O A a → Hc a = some o := fun a o e n => s a o (fun z => n (.inl (by rw [z]; exact hO))) e
  refine ⟨ok.len, fun a o e => ?_, ok.inj, fun i a e => ?_, fun i a e => ?_, fun a z => ?_, fun i r e => ?_⟩
  · by_cases ha : a = D
    · subst ha
      rw [upd_same] at e
      cases e; exact hD
    · rw [upd_ne ha] at e
      exact s _ _ ha (ok.grow _ _ e)
  · rw [upd_ne (nA i a e)]; exact ok.new i a e
  · obtain ⟨xs, q⟩ := ok.dom i a e
    exact ⟨xs, s _ _ (nA i a e) q⟩
  · by_cases ha : a = D
    · exact ⟨acc, by rw [ha]; exact upd_same⟩
    · obtain ⟨xs, q⟩ := ok.odom a z
      exact ⟨xs, by rw [upd_ne ha]; exact q⟩
  · obtain ⟨v, e1, h⟩ := ok.val i r e
    refine ⟨v, e1, ?_⟩
    obtain ⟨fl, d⟩ := r
    cases fl with
    | false => exact Rp.keep k (fun _ z => .inl z) _ _ h
    | true =>
      obtain ⟨a, xs, ds, q1, q2, q3, q4, h⟩ := h
      exact ⟨a, xs, ds, q1, q2, q3, s _ _ (nA i a q1) q4, RpA.keep k (fun _ z => .inl z) _ _ h⟩
section
variable {X : Cx} {c : Cfg} {k : Nat} {sc : Sc}
theorem rd_comp2 {K : PySem.W.Frag} {own : List (Str × Nat)} {own1 : List Nat} {g g1 : G} {it it1 : I} {t t1 : Oe} {x : E} (hgs : (gslots g).all (fun i => (own.map (·.2)).contains i) = true) (hgs1 : (gslots g1).all (fun i => own1.contains i) = true) (bb : Bool) (σ : L2.St) (H : Hp) (Q : VK) (hq : tE K (.comp2 (own.map (·.2)) g it t own1 g1 it1 t1 x) bb σ H Q) :
    tLc2 (tI K it true) (tG K g) (tC K t) (tI K it1 true) (tG K g1) (tC K t1) (tE K x false) (own.map (·.2)) own1 σ H Q := by
  obtain ⟨O, H0, A, ρ, r, ok, ev, q⟩ := hq
  simp only [evE] at ev
  obtain ⟨ds, e1, ev⟩ := bind_some ev
  obtain ⟨ys, e2, e3⟩ := bind_some ev
  split at e3
  case isFalse => cases e3
  rename_i hly
  have hly := lenOk_le hly
  cases e3
  generalize hF : (fun d => (asg g d (wipeR ρ (own.map (·.2)))).bind fun ρ2 => (evC t ρ2).bind fun k => match k with
      | false => some []
      | true => (evI it1 true ρ2).bind fun ds1 => compGo (fun d1 => (asg g1 d1 (wipeR ρ2 own1)).bind fun ρ3 => (evC t1 ρ3).bind fun k => match k with
        | false => some none
        | true => (evE x false ρ3).map fun r => some r.2) ds1) = F at e2
  refine ⟨O, H0, A, ρ, ds, ok, e1, fun J H1 s1 hz wk D hD => ?_⟩
  have hn : H D = none := s1.free hD
  refine ⟨fun i m Hc => m = ds.length - i ∧ i ≤ ds.length ∧ ∃ acc ys1 ys2, Hc D = some (.lst acc) ∧ RpA K Hc (fun a => Ow O A a ∨ a = D) acc ys1 ∧ Same H1 Hc ∧ compGo2 F (ds.drop i) = some ys2 ∧ ys = ys1 ++ ys2,
    ⟨ds.length, rfl, Nat.zero_le _, [], [], ys, upd_same, .nil, same_upd hD, e2, rfl⟩, ?_⟩
  rintro i m Hc ⟨rfl, hil, acc, ys1, ys2, hDc, hr, sm, e4, e5⟩
  by_cases hlt : i < ds.length
  · have hdr : ds.drop i = ds[i] :: ds.drop (i + 1) := List.drop_eq_getElem_cons hlt
    rw [hdr] at e4
    obtain ⟨go, yld⟩ := (wk Hc (KpOf.same sm) i).1 _ (List.getElem?_eq_getElem hlt)
    refine .inr ⟨go, fun H' => ∃ acc ys1 ys2, H' D = some (.lst acc) ∧ RpA K H' (fun a => Ow O A a ∨ a = D) acc ys1 ∧ Same H1 H' ∧ compGo2 F (ds.drop (i + 1)) = some ys2 ∧ ys = ys1 ++ ys2, fun H' h' => ⟨ds.length - (i + 1), by omega, rfl, hlt, h'⟩, fun v0 H' hy => ?_⟩
    obtain ⟨e6, hx⟩ := yld v0 H' hy
    subst e6
    have okD := ok.with (s1.trans sm) hn hDc
    have okW := okD.wipe (own.map (·.2))
    have hO : ∀ a, Ow (fun a => O a ∨ a = D) A a → Ow O A a ∨ H1 a = none := fun a z => by
      rcases z with (z | z) | z
      · exact .inl (.inl z)
      · exact .inr (by rw [z]; exact hD)
      · exact .inl (.inr z)
    have hx' : Rp K H' (Ow (fun a => O a ∨ a = D) A) v0 ds[i] := Rp.keep (fun a o e _ => sm a o e) hO _ _ hx
    obtain ⟨xs, zs, hFo, e7, e8⟩ := compGo2_cons e4
    subst e8
    rw [← hF] at hFo
    obtain ⟨ρ2, ea, ef⟩ := bind_some hFo
    obtain ⟨kk, ec, ef⟩ := bind_some ef
    refine ⟨_, _, A, _, ρ2, ds[i], okW, hx', ea, fun σ2 ok2 w2 => ⟨?_, ⟨_, _, A, ρ2, kk, ok2, ec, fun H3 s3 => ?_⟩⟩⟩
    · rw [w2 _ (mem_of_all hgs)]
      exact wipe_wipe fun _ h => h
    · cases kk with
      | false =>
        cases ef
        exact ⟨acc, ys1, zs, s3 _ _ hDc, hr.same s3, sm.trans s3, e7, e5⟩
      | true =>
        obtain ⟨ds1, ei, eg⟩ := bind_some ef
        have eg : compGo (fun d1 => (asg g1 d1 (wipeR ρ2 own1)).bind fun ρ3 => (evC t1 ρ3).bind fun k => match k with
          | false => some none
          | true => (evE x false ρ3).map fun r => some r.2) ds1 = some xs := eg
        generalize hF1 : (fun d1 => (asg g1 d1 (wipeR ρ2 own1)).bind fun ρ3 => (evC t1 ρ3).bind fun k => match k with
          | false => some none
          | true => (evE x false ρ3).map fun r => some r.2) = F1 at eg
        refine ⟨_, _, A, ρ2, ds1, ok2.same s3, ei, fun J1 H4 s4 hz1 wk1 => ?_⟩
        have hD4 : H4 D = some (.lst acc) := s4 _ _ (s3 _ _ hDc)
        refine ⟨fun j m Hc => m = ds1.length - j ∧ j ≤ ds1.length ∧ ∃ acc' yi yj, Hc D = some (.lst acc') ∧ RpA K Hc (fun a => Ow O A a ∨ a = D) acc' (ys1 ++ yi) ∧ (∀ a o, a ≠ D → H4 a = some o → Hc a = some o) ∧ compGo F1 (ds1.drop j) = some yj ∧ xs = yi ++ yj,
          ⟨ds1.length, rfl, Nat.zero_le _, acc, [], xs, hD4, by rw [List.append_nil]; exact (hr.same s3).same s4, fun _ _ _ e => e, eg, rfl⟩, ?_⟩
        rintro j m Hc ⟨rfl, hjl, acc', yi, yj, hDc', hr', sm', e4', e5'⟩
        have sm1 : Same H1 Hc := fun a o e => sm' _ _ (ne_of_none e hD) (s4 _ _ (s3 _ _ (sm _ _ e)))
        have hkp : KpOf true H4 (fun a => O a ∨ a = D) (Ow (fun a => O a ∨ a = D) A) Hc := fun a o e n => sm' a o (fun z => n (.inr z)) e
        by_cases hlt' : j < ds1.length
        · have hdr : ds1.drop j = ds1[j] :: ds1.drop (j + 1) := List.drop_eq_getElem_cons hlt'
          rw [hdr] at e4'
          obtain ⟨go', yld'⟩ := (wk1 Hc hkp j).1 _ (List.getElem?_eq_getElem hlt')
          refine .inr ⟨go', fun H' => ∃ acc' yi yj, H' D = some (.lst acc') ∧ RpA K H' (fun a => Ow O A a ∨ a = D) acc' (ys1 ++ yi) ∧ (∀ a o, a ≠ D → H4 a = some o → H' a = some o) ∧ compGo F1 (ds1.drop (j + 1)) = some yj ∧ xs = yi ++ yj, fun H' h' => ⟨ds1.length - (j + 1), by omega, rfl, hlt', h'⟩, fun v1 H' hy' => ?_⟩
          obtain ⟨e6', hx1⟩ := yld' v1 H' hy'
          subst e6'
          have okR := ((ok2.same s3).same s4).redo (.inr rfl) sm' hDc'
          have okW1 := okR.wipe own1
          have hx1' : Rp K H' (Ow (fun a => O a ∨ a = D) A) v1 ds1[j] := Rp.keep (fun a o e n => sm' a o (fun z => n (.inl (.inr z))) e) (fun _ z => .inl z) _ _ hx1
          have hFd : ∃ o, F1 ds1[j] = some o ∧ ((o = none ∧ compGo F1 (ds1.drop (j + 1)) = some yj) ∨ ∃ y zs, o = some y ∧ compGo F1 (ds1.drop (j + 1)) = some zs ∧ yj = y :: zs) := by
            rcases compGo_cons e4' with ⟨h1, h2⟩ | ⟨y, zs, h1, h2, h3⟩
            · exact ⟨none, h1, .inl ⟨rfl, h2⟩⟩
            · exact ⟨some y, h1, .inr ⟨y, zs, rfl, h2, h3⟩⟩
          obtain ⟨o, hFo1, hoc⟩ := hFd
          rw [← hF1] at hFo1
          obtain ⟨ρ3, ea1, ef1⟩ := bind_some hFo1
          obtain ⟨kk1, ec1, ef1⟩ := bind_some ef1
          refine ⟨_, _, A, _, ρ3, ds1[j], okW1, hx1', ea1, fun σ3 ok3 w3 => ⟨?_, ⟨_, _, A, ρ3, kk1, ok3, ec1, fun H6 s6 => ?_⟩⟩⟩
          · rw [w3 _ (mem_of_all hgs1)]
            exact wipe_wipe fun _ h => h
          · cases kk1 with
            | false =>
              cases ef1
              rcases hoc with ⟨_, h2⟩ | ⟨y, zs', h1, _⟩
              · exact ⟨acc', yi, yj, s6 _ _ hDc', hr'.same s6, fun a o n e => s6 _ _ (sm' a o n e), h2, e5'⟩
              · cases h1
            | true =>
              obtain ⟨r', ee, er⟩ := map_some ef1
              subst er
              rcases hoc with ⟨h1, _⟩ | ⟨y, zs', h1, h2, h3⟩
              · cases h1
              · cases h1
                subst h3
                refine ⟨_, _, A, ρ3, r', ok3.same s6, ee, fun v H7 s7 h7 => ⟨acc', s7 _ _ (s6 _ _ hDc'), ?_, ?_⟩⟩
                · have l2 := hr'.length
                  rw [e5, e5', List.length_append, List.length_append, List.length_append, List.length_cons] at hly
                  rw [List.length_append] at l2
                  omega
                · have hv : Rp K H7 (fun a => Ow O A a ∨ a = D) v r'.2 := ((ok3.same s6).down s7 h7.toR).less fun a z => by
                    rcases z with (z | z) | z
                    · exact .inl (.inl z)
                    · exact .inr z
                    · exact .inl (.inr z)
                  refine ⟨acc' ++ [v], yi ++ [r'.2], zs', upd_same, ?_, fun a o n e => ?_, h2, by rw [e5', List.append_assoc]; rfl⟩
                  · rw [← List.append_assoc]
                    exact acc_more (.inr rfl) ((hr'.same s6).same s7) hv
                  · rw [upd_ne n]
                    exact s7 _ _ (s6 _ _ (sm' a o n e))
        · have hj' : j = ds1.length := by omega
          subst hj'
          rw [List.drop_length] at e4'
          cases e4'
          rw [List.append_nil] at e5'
          subst e5'
          exact .inl ⟨(wk1 Hc hkp _).2 (Nat.le_refl _), acc', ys1 ++ xs, zs, hDc', hr', sm1, e7, by rw [e5, List.append_assoc]⟩
  · have hi' : i = ds.length := by omega
    subst hi'
    rw [List.drop_length] at e4
    cases e4
    rw [List.append_nil] at e5
    subst e5
    exact .inl ⟨(wk Hc (KpOf.same sm) _).2 (Nat.le_refl _), q _ Hc (s1.trans sm) ⟨D, acc, ys, rfl, rfl, hDc, hn, hr⟩⟩
theorem s_comp2 {elt tg iter tg1 iter1 : Expr} {ifs ifs1 : List Expr} {scope : Scope} {pos : Pos} {own : List (Str × Nat)} {own1 : List Nat} {g g1 : G} {it it1 : I} {t t1 : Oe} {x : E} (gd : Good c k sc X) (hi : ∀ b, PI X tg iter (tI X.K it b)) (hg : CG c scope.names tg g)
    (ht : ∀ {X' : Cx}, Good c k scope.names X' → PTs X' ifs (tC X'.K t)) (hi1 : ∀ {X' : Cx}, Good c k scope.names X' → ∀ b, PI X' tg1 iter1 (tI X'.K it1 b)) (hg1 : CG c scope.names tg1 g1) (ht1 : ∀ {X' : Cx}, Good c k scope.names X' → PTs X' ifs1 (tC X'.K t1))
    (he : ∀ {X' : Cx}, Good c k scope.names X' → Both X' elt x)
    (hb : blkC c.N ⟨.function, sc, false, false, []⟩ scope own = true) (hgs : (gslots g).all (fun i => (own.map (·.2)).contains i) = true) (hgs1 : (gslots g1).all (fun i => own1.contains i) = true) (ho1 : own1.all (fun i => (own.map (·.2)).contains i) = true)
    (hs : noSet iter = true) (hs1 : noSet iter1 = true) (bb : Bool) :
    PE X (.ListComp elt [⟨tg, iter, ifs, 0⟩, ⟨tg1, iter1, ifs1, 0⟩] scope pos) (tE X.K (.comp2 (own.map (·.2)) g it t own1 g1 it1 t1 x) bb) := by
  refine PE.imp (pe_lc2 (wi := tI X.K it true) (g := tG X.K g) (tt := tC X.K t) (wi1 := tI X.K it1 true) (g1 := tG X.K g1) (tt1 := tC X.K t1) (te := tE X.K x false) (vs1 := own1) gd.calm (by rw [gd.hN]; exact gd.nd) (hi true) (blk_ok gd hb) (mem_of_all ho1)
    (fun s H C cl fp => soundG (good_blk gd hb s H C cl fp) hg) (fun s H C cl fp => ht (good_blk gd hb s H C cl fp)) (fun s H C cl fp => hi1 (good_blk gd hb s H C cl fp) true) (fun s H C cl fp => soundG (good_blk gd hb s H C cl fp) hg1) (fun s H C cl fp => ht1 (good_blk gd hb s H C cl fp))
    (fun s H C cl fp => (he (good_blk gd hb s H C cl fp)).1 false) (noset_of hs X.env) (fun env => noset_of hs1 env)) (rd_comp2 hgs hgs1 bb)
end
end PV

set_option Elab.async false
set_option linter.all false
set_option maxRecDepth 100000
set_option maxHeartbeats 4000000
/-! PV9: all expressions. -/
namespace PV
open PySem PySem.Spec PyProof.Rows L2
section
variable {c : Cfg} {k : Nat}
theorem attr_plain {o : Expr} {f : Str} {env : Env} (h : noStar o = true) (hc : notCall o = true) : attributeBase o f env (eval o env) = eval o env := by
  cases o <;> first | rfl | cases hc
/-- x.index(y) -/
theorem s_index {X : Cx} {sc : Sc} {o e : Expr} {apos cpos : Pos} {x y : E} (gd : Good c k sc X) (ho : Both X o x) (he : Both X e y) (hl : (apos.endLine == cpos.line) = true) (hc : notCall o = true) (n : noStar o = true) (ne : noStar e = true) (bb : Bool) :
    PE X (.Call (.Attribute o "index" apos) [e] [] cpos) (tE X.K (.bi .index (.cons x (.cons y .nil))) bb) := by
  have hu : X.A.units + 65 < cLine := by have := gd.room.un; omega
  have h1 : starEach [e] X.env = (false, eval e X.env) :: starEach [] X.env := starEach_cons ne
  refine PE.imp (pe_bm PySem.F.plainAttrs_list PySem.F.slot_list_index PySem.F.type_list_index (mt_indexP hu) (ho.1 true) (pa_cons (he.1 true) pa_nil h1) (attr_plain n hc) (by rw [h1]; rfl) hl h1 rfl) fun σ H Q ⟨O, H0, A, ρ, r, ok, ev, q⟩ => ?_
  simp only [evE] at ev
  obtain ⟨ds, e1, ev2⟩ := bind_some ev
  obtain ⟨r1, fs, e2, e3, rfl⟩ := evEs_cons e1
  obtain ⟨r2, fs, e4, e5, rfl⟩ := evEs_cons e3
  cases evEs_nil e5
  refine ⟨O, H0, A, ρ, r1, ok, e2, fun v1 H1 s1 h1 => ⟨?_, ⟨O, H0, A, ρ, r2, ok.same s1, e4, fun v2 H2 s2 h2 => ?_⟩⟩⟩
  · -- it is a list
    have hb := rpB_of ok s1 h1
    obtain ⟨fl, d⟩ := r1
    cases d <;> try cases ev2
    obtain ⟨a, xs, rfl, hr, _⟩ := hb.list
    exact .inl ⟨rfl, xs, .inl hr⟩
  · exact ⟨Ow O A, _, r, fun a z => ((ok.same s1).same s2).own_some z, .cons ((rpB_of ok s1 h1).same s2) (.cons (rpB_of (ok.same s1) s2 h2) .nil), ev2, fun v H' s3 h3 => q v H' (s1.trans (s2.trans s3)) (RpX.up (s1.trans s2) h3.toX)⟩
/-- x.count(y) -/
theorem s_count {X : Cx} {sc : Sc} {o e : Expr} {apos cpos : Pos} {x y : E} (gd : Good c k sc X) (ho : Both X o x) (he : Both X e y) (hl : (apos.endLine == cpos.line) = true) (hc : notCall o = true) (n : noStar o = true) (ne : noStar e = true) (bb : Bool) :
    PE X (.Call (.Attribute o "count" apos) [e] [] cpos) (tE X.K (.bi .count (.cons x (.cons y .nil))) bb) := by
  have hu : X.A.units + 65 < cLine := by have := gd.room.un; omega
  have h1 : starEach [e] X.env = (false, eval e X.env) :: starEach [] X.env := starEach_cons ne
  refine PE.imp (pe_bm PySem.F.plainAttrs_list PySem.F.slot_list_count PySem.F.type_list_count (mt_countP hu) (ho.1 true) (pa_cons (he.1 true) pa_nil h1) (attr_plain n hc) (by rw [h1]; rfl) hl h1 rfl) fun σ H Q ⟨O, H0, A, ρ, r, ok, ev, q⟩ => ?_
  simp only [evE] at ev
  obtain ⟨ds, e1, ev2⟩ := bind_some ev
  obtain ⟨r1, fs, e2, e3, rfl⟩ := evEs_cons e1
  obtain ⟨r2, fs, e4, e5, rfl⟩ := evEs_cons e3
  cases evEs_nil e5
  refine ⟨O, H0, A, ρ, r1, ok, e2, fun v1 H1 s1 h1 => ⟨?_, ⟨O, H0, A, ρ, r2, ok.same s1, e4, fun v2 H2 s2 h2 => ?_⟩⟩⟩
  · have hb := rpB_of ok s1 h1
    obtain ⟨fl, d⟩ := r1
    cases d <;> try cases ev2
    obtain ⟨a, xs, rfl, hr, _⟩ := hb.list
    exact .inl ⟨rfl, xs, .inl hr⟩
  · exact ⟨Ow O A, _, r, fun a z => ((ok.same s1).same s2).own_some z, .cons ((rpB_of ok s1 h1).same s2) (.cons (rpB_of (ok.same s1) s2 h2) .nil), ev2, fun v H' s3 h3 => q v H' (s1.trans (s2.trans s3)) (RpX.up (s1.trans s2) h3.toX)⟩
/-- list(range(..)) -/
theorem rgV_rng {a b : Int} : ∀ {K : PySem.W.Frag} {H : Hp} {O : Set0}, RpA K H O (rgV a b) (rngI a (b - a).toNat) := by
  intro K H O
  have e : rngI a (b - a).toNat = ((List.range (b - a).toNat).map fun (i : Nat) => a + (i : Int)).map PyData.int := by unfold rngI; rw [List.map_map]; rfl
  have e2 : rgV a b = ((List.range (b - a).toNat).map fun (i : Nat) => a + (i : Int)).map V.int := by unfold rgV; rw [List.map_map]; rfl
  rw [e, e2]
  exact rpA_ints
theorem rgOk_of {a b : Int} (h1 : smallI a = true) (h2 : smallI b = true) (h3 : lenOk (b - a).toNat = true) : RgOk a b := by
  have h3 : (b - a).toNat ≤ sizeLine := lenOk_le h3
  rw [sizeLine_eq] at h3
  unfold smallI at h1 h2
  simp only [Bool.and_eq_true, decide_eq_true_eq] at h1 h2
  refine ⟨by omega, by omega, by omega, by omega, by omega⟩
theorem s_rngl1 {X : Cx} {sc : Sc} {e : Expr} {p p2 pos q : Pos} {x : E} (gd : Good c k sc X) (hg : gli sc "list") (hg2 : gli sc "range") (he : Both X e x) (n : noStar e = true) (bb : Bool) :
    PE X (.Call (.Name "list" p) [.Call (.Name "range" p2) [e] [] q] [] pos) (tE X.K (.rngl (.cons x .nil)) bb) := by
  refine PE.imp (pe_listRg gd.calm (gd.gl _ hg) (gd.blt "list" (by decide +kernel)) (prg_1 (gd.gl _ hg2) (gd.blt "range" (by decide +kernel)) (he.1 true) (starEach_cons n)) (starEach_cons rfl)) fun σ H Q ⟨O, H0, A, ρ, r, ok, ev, qq⟩ => ?_
  simp only [evE] at ev
  obtain ⟨ds, e1, ev2⟩ := bind_some ev
  obtain ⟨l, e3, e4⟩ := map_some ev2
  subst e4
  obtain ⟨r1, fs, e2, e5, rfl⟩ := evEs_cons e1
  cases evEs_nil e5
  obtain ⟨i, q1, q2, q3, rfl⟩ := evRng1 e3
  refine ⟨O, H0, A, ρ, r1, ok, e2, fun v H1 s1 hv => ?_⟩
  have hv := rpB_int (rpB_of ok s1 hv) q1
  refine ⟨i, hv, rgOk_of (by decide) q2 (by simpa using q3), fun a ha => ?_⟩
  have g := Gives.new (P := Ow O A) (Q := Q) (ds := rngI 0 i.toNat) (xs := rgV 0 i) (fun a z => (ok.same s1).own_some z) (fun v H2 s2 h2 => qq v H2 (s1.trans s2) (RpX.up s1 h2.toX)) (by have := rgV_rng (a := 0) (b := i) (K := X.K) (H := H1) (O := Ow O A); rwa [Int.sub_zero] at this)
  exact g a ha
theorem s_rngl2 {X : Cx} {sc : Sc} {e f : Expr} {p p2 pos q : Pos} {x y : E} (gd : Good c k sc X) (hg : gli sc "list") (hg2 : gli sc "range") (he : Both X e x) (n : noStar e = true) (hf : Both X f y) (m : noStar f = true) (bb : Bool) :
    PE X (.Call (.Name "list" p) [.Call (.Name "range" p2) [e, f] [] q] [] pos) (tE X.K (.rngl (.cons x (.cons y .nil))) bb) := by
  refine PE.imp (pe_listRg gd.calm (gd.gl _ hg) (gd.blt "list" (by decide +kernel)) (prg_2 (gd.gl _ hg2) (gd.blt "range" (by decide +kernel)) (he.1 true) (hf.1 true) (starEach_cons n) (starEach_cons m) (by rw [starEach_cons m]; rfl)) (starEach_cons rfl)) fun σ H Q ⟨O, H0, A, ρ, r, ok, ev, qq⟩ => ?_
  simp only [evE] at ev
  obtain ⟨ds, e1, ev2⟩ := bind_some ev
  obtain ⟨l, e3, e4⟩ := map_some ev2
  subst e4
  obtain ⟨r1, fs, e2, e5, rfl⟩ := evEs_cons e1
  obtain ⟨r2, fs, e6, e7, rfl⟩ := evEs_cons e5
  cases evEs_nil e7
  obtain ⟨i, j, q1, q2, q3, q4, q5, rfl⟩ := evRng2 e3
  refine ⟨O, H0, A, ρ, r1, ok, e2, fun v H1 s1 hv => ⟨O, H0, A, ρ, r2, ok.same s1, e6, fun v2 H2 s2 hv2 => ?_⟩⟩
  have hv := rpB_int (rpB_of ok s1 hv) q1
  have hv2 := rpB_int (rpB_of (ok.same s1) s2 hv2) q2
  refine ⟨i, j, hv, hv2, rgOk_of q3 q4 q5, fun a ha => ?_⟩
  have g := Gives.new (P := Ow O A) (Q := Q) (ds := rngI i (j - i).toNat) (xs := rgV i j) (fun a z => ((ok.same s1).same s2).own_some z) (fun v H3 s3 h3 => qq v H3 (s1.trans (s2.trans s3)) (RpX.up (s1.trans s2) h3.toX)) rgV_rng
  exact g a ha
/-- sorted(set(x)) -/
theorem s_sset {X : Cx} {sc : Sc} {e : Expr} {p p2 pos q : Pos} {x : E} (gd : Good c k sc X) (hg : gli sc "sorted") (hg2 : gli sc "set") (he : Both X e x) (n : noStar e = true) (bb : Bool) :
    PE X (.Call (.Name "sorted" p) [.Call (.Name "set" p2) [e] [] q] [] pos) (tE X.K (.bi .sortedSet (.cons x .nil)) bb) := by
  have h1 : starEach [e] X.env = (false, eval e X.env) :: starEach [] X.env := starEach_cons n
  have hi := pe_callTy (p := p2) (pos := q) (call_setP gd.calm) (gd.gl _ hg2) (gd.blt "set" (by decide +kernel)) PyProof.Rows.boot_set (pa_cons (he.1 true) pa_nil h1) (by decide +kernel) (by decide +kernel) h1 rfl
  have ho := pe_callB (cr_sortedSet gd.calm) (gd.gl _ hg) (gd.blt "sorted" (by decide +kernel)) PyProof.Rows.boot_sorted (pa_cons hi pa_nil rfl) (by decide +kernel) (by decide +kernel) rfl rfl (p := p) (pos := pos)
  refine PE.imp ho fun σ H Q ⟨O, H0, A, ρ, r, ok, ev, qq⟩ => ?_
  simp only [evE] at ev
  obtain ⟨ds, e1, ev2⟩ := bind_some ev
  obtain ⟨r1, fs, e2, e3, rfl⟩ := evEs_cons e1
  cases evEs_nil e3
  obtain ⟨fl, d⟩ := r1
  cases d <;> try cases ev2
  rename_i dl
  obtain ⟨ns, i1, i2⟩ := bind_some (show (intsOf dl).bind (fun l => if Nat.blt l.length 64 then some (true, PyData.list ((sortI (dedupI l)).map PyData.int)) else none) = some r from ev2)
  split at i2
  case isFalse => cases i2
  rename_i hz
  cases i2
  refine ⟨O, H0, A, ρ, _, ok, e2, fun v H1 s1 hv => ⟨Ow O A, dl, ns, .cons (rpB_of ok s1 hv) .nil, i1, Nat.le_of_ble_eq_true hz, fun a m ha hm => ⟨a, _, m, rfl, upd_same, hm, fun zs a2 hs hx hl hn => ?_⟩⟩⟩
  have ez : zs = sortI (dedupI ns) := setI_eq hs fun y => by rw [hx y, decide_eq_true_eq]
  have s2 := s1.trans ((same_upd ha).trans (same_upd (o := HO.lst (zs.map V.int)) hn))
  have hf : H a2 = none := s1.free ((same_upd ha).free hn)
  refine qq _ _ s2 (RpR.toX (P := Ow O A) ⟨a2, _, _, rfl, rfl, upd_same, hf, ?_⟩)
  rw [ez]
  exact rpA_ints
mutual
theorem soundE : ∀ {sc : Sc} {e : Expr} {x : E}, CE c sc e x → ∀ {X : Cx}, Good c k sc X → Both X e x
  | _, _, _, .name (i := i) h1 h2 h3 h4, X, gd => both_plain (fun b => PE.imp (pe_var (i := i) (by rw [gd.hN]; exact h1) (gd.vis h2) h3 h4) fun σ H Q ⟨O, H0, A, ρ, r, ok, ev, q⟩ => by
      obtain ⟨v, e1, h⟩ := slot_val ok ev
      exact ⟨v, e1, q v H (Same.refl H) h⟩) fun _ => rfl
  | _, _, _, .const h1 h2 h3, X, gd => by
    obtain ⟨u, v, hm, r, hr⟩ := gd.csts _ _ h2
    refine both_plain (fun b => PE.imp (pe_glob (gd.gl _ h1) hm r h3) fun σ H Q ⟨O, H0, A, ρ, r, ok, ev, q⟩ => ?_) fun _ => rfl
    simp only [evE] at ev
    cases ev
    exact q v H (Same.refl H) (RpX.sh (hr H _))
  | _, _, _, .int, X, gd => both_plain (fun b => PE.imp pe_int fun σ H Q ⟨O, H0, A, ρ, r, ok, ev, q⟩ => by
      simp only [evE] at ev; cases ev; exact q _ H (Same.refl H) (RpX.sh (.int _))) fun _ => rfl
  | _, _, _, .bool, X, gd => both_plain (fun b => PE.imp pe_bl fun σ H Q ⟨O, H0, A, ρ, r, ok, ev, q⟩ => by
      simp only [evE] at ev; cases ev; exact q _ H (Same.refl H) (RpX.sh (.bl _))) fun _ => rfl
  | _, _, _, .none, X, gd => both_plain (fun b => PE.imp pe_non fun σ H Q ⟨O, H0, A, ρ, r, ok, ev, q⟩ => by
      simp only [evE] at ev; cases ev; exact q _ H (Same.refl H) (RpX.sh .non)) fun _ => rfl
  | _, _, _, .str, X, gd => both_plain (fun b => PE.imp pe_str fun σ H Q ⟨O, H0, A, ρ, r, ok, ev, q⟩ => by
      simp only [evE] at ev; cases ev; exact q _ H (Same.refl H) (RpX.sh (.str _))) fun _ => rfl
  | _, _, _, .bin h1 h2, X, gd => both_plain (s_bin (soundE h1 gd) (soundE h2 gd)) fun _ => rfl
  | _, _, _, .neg h1, X, gd => both_plain (s_neg (soundE h1 gd)) fun _ => rfl
  | _, _, _, .cmp h1 h2 hm, X, gd => s_cmp gd.room.units (soundE h1 gd) (soundE h2 gd) hm
  | _, _, _, .chain h1 h2 h3 hm, X, gd => s_chain gd.room.units (soundE h1 gd) (soundE h2 gd) (soundE h3 gd) hm
  | _, _, _, .and h, X, gd => ⟨(soundA h gd).1, (soundA h gd).2.pt⟩
  | _, _, _, .or h, X, gd => ⟨(soundO h gd).1, (soundO h gd).2.pt⟩
  | _, _, _, .not h1, X, gd => s_not (soundE h1 gd)
  | _, _, _, .ite h1 h2 h3, X, gd => ⟨s_ite (soundE h1 gd) (soundE h2 gd) (soundE h3 gd), s_iteT (soundE h1 gd) (soundE h2 gd) (soundE h3 gd)⟩
  | _, _, _, .tup h, X, gd => both_plain (s_tup (soundEs h gd)) fun _ => rfl
  | _, _, _, .lst h, X, gd => both_plain (s_lst (soundEs h gd)) fun _ => rfl
  | _, _, _, .ix h1 h2 n, X, gd => both_plain (s_ix (soundE h1 gd) (soundE h2 gd) n) fun _ => rfl
  | _, _, _, .sl h1 h2 h3, X, gd => both_plain (s_sl (soundE h1 gd) (soundP h2 gd) (soundP h3 gd)) fun _ => rfl
  | _, _, _, .call h1 h2 h3 (.cons he n hs), X, gd => both_plain (s_call gd h1 h2 h3 n (ces_star hs _ _) (s_cons (soundE he gd) n (soundEs hs gd))) fun _ => rfl
  | _, _, _, .call0 h1 h2 h3, X, gd => both_plain (s_call0 gd h1 h2 h3) fun _ => rfl
  | _, _, _, .rev h1, X, gd => both_plain (s_rev (soundE h1 gd)) fun _ => rfl
  | _, _, _, .rngl1 h1 h2 he n, X, gd => both_plain (s_rngl1 gd h1 h2 (soundE he gd) n) fun _ => rfl
  | _, _, _, .rngl2 h1 h2 he n hf m, X, gd => both_plain (s_rngl2 gd h1 h2 (soundE he gd) n (soundE hf gd) m) fun _ => rfl
  | _, _, _, .count h1 h2 hl hc n ne, X, gd => both_plain (s_count gd (soundE h1 gd) (soundE h2 gd) hl hc n ne) fun _ => rfl
  | _, _, _, .bi h1 h2 (.cons he n hs), X, gd => both_plain (s_bi gd h1 h2 n (ces_star hs _ _) (s_cons (soundE he gd) n (soundEs hs gd))) fun _ => rfl
  | _, _, _, .sset h1 h2 he n, X, gd => both_plain (s_sset gd h1 h2 (soundE he gd) n) fun _ => rfl
  | _, _, _, .is h1 h2 h3 he n, X, gd => both_plain (s_is gd h1 h2 h3 (soundE he gd) n) fun _ => rfl
  | _, _, _, .index h1 h2 hl hc n ne, X, gd => both_plain (s_index gd (soundE h1 gd) (soundE h2 gd) hl hc n ne) fun _ => rfl
  | _, _, _, .comp h1 h2 h3 h4 hb hg hs, X, gd => both_plain (s_comp gd (soundI h1 gd) h2 (fun gd' => soundC h3 gd') (fun gd' => soundE h4 gd') hb hg hs) fun _ => rfl
  | _, _, _, .comp2 h1 h2 h3 h4 h5 h6 h7 hb hg hg1 ho hs hs1, X, gd => both_plain (s_comp2 gd (soundI h1 gd) h2 (fun gd' => soundC h3 gd') (fun gd' => soundI h4 gd') h5 (fun gd' => soundC h6 gd') (fun gd' => soundE h7 gd') hb hg hg1 ho hs hs1) fun _ => rfl
theorem soundA : ∀ {sc : Sc} {es : List Expr} {pos : Pos} {x : E}, CA c sc es pos x → ∀ {X : Cx}, Good c k sc X → (∀ b, PE X (.BoolOp .And es pos) (tE X.K x b)) ∧ PW X (.BoolOp .And es pos) (tT X.K x)
  | _, _, _, _, .one h, X, gd => ⟨fun b => pe_one ((soundE h gd).1 b), pw_and1 (soundE h gd).2⟩
  | _, _, _, _, .cons h t, X, gd => by
    have h1 := soundE h gd
    obtain ⟨h2, h3⟩ := soundA t gd
    refine ⟨fun b => PE.imp (pe_and (h1.1 true) (h2 b)) fun σ H Q ⟨O, H0, A, ρ, r, ok, ev, q⟩ => ?_, PW.imp (pw_and h1.2 h3) fun σ H Q ⟨O, H0, A, ρ, kk, ok, ev, q⟩ => ?_⟩
    · simp only [evE] at ev
      obtain ⟨r1, e1, ev2⟩ := bind_some ev
      split at ev2
      · rename_i e2
        exact ⟨O, H0, A, ρ, r1, ok, e1, fun v1 H1 s1 h1 => ⟨true, rpB_bool (rpB_of ok s1 h1) e2, by rw [if_pos rfl]; exact ⟨O, H0, A, ρ, r, ok.same s1, ev2, fun v H' s h => q v H' (s1.trans s) (h.up s1)⟩⟩⟩
      · rename_i e2
        cases ev2
        exact ⟨O, H0, A, ρ, r1, ok, e1, fun v1 H1 s1 h1 => ⟨false, rpB_bool (rpB_of ok s1 h1) e2, by rw [if_neg Bool.false_ne_true]; exact q _ _ s1 rpX_bl⟩⟩
      · cases ev2
    · obtain ⟨r, ev, e9⟩ := evT_inv ev
      simp only [evE] at ev
      obtain ⟨r1, e1, ev2⟩ := bind_some ev
      split at ev2
      · rename_i e2
        exact ⟨O, H0, A, ρ, true, ok, evT_of e1 e2, fun H1 s1 => by show tT X.K _ σ H1 Q; exact ⟨O, H0, A, ρ, kk, ok.same s1, evT_of ev2 e9, fun H2 s2 => q H2 (s1.trans s2)⟩⟩
      · rename_i e2
        cases ev2
        cases e9
        exact ⟨O, H0, A, ρ, false, ok, evT_of e1 e2, fun H1 s1 => by show Q false H1; exact q H1 s1⟩
      · cases ev2
theorem soundO : ∀ {sc : Sc} {es : List Expr} {pos : Pos} {x : E}, CO c sc es pos x → ∀ {X : Cx}, Good c k sc X → (∀ b, PE X (.BoolOp .Or es pos) (tE X.K x b)) ∧ PW X (.BoolOp .Or es pos) (tT X.K x)
  | _, _, _, _, .one h, X, gd => ⟨fun b => pe_one ((soundE h gd).1 b), pw_or1 (soundE h gd).2⟩
  | _, _, _, _, .cons h t, X, gd => by
    have h1 := soundE h gd
    obtain ⟨h2, h3⟩ := soundO t gd
    refine ⟨fun b => PE.imp (pe_or (h1.1 true) (h2 b)) fun σ H Q ⟨O, H0, A, ρ, r, ok, ev, q⟩ => ?_, PW.imp (pw_or h1.2 h3) fun σ H Q ⟨O, H0, A, ρ, kk, ok, ev, q⟩ => ?_⟩
    · simp only [evE] at ev
      obtain ⟨r1, e1, ev2⟩ := bind_some ev
      split at ev2
      · rename_i e2
        exact ⟨O, H0, A, ρ, r1, ok, e1, fun v1 H1 s1 h1 => ⟨false, rpB_bool (rpB_of ok s1 h1) e2, by rw [if_neg Bool.false_ne_true]; exact ⟨O, H0, A, ρ, r, ok.same s1, ev2, fun v H' s h => q v H' (s1.trans s) (h.up s1)⟩⟩⟩
      · rename_i e2
        cases ev2
        exact ⟨O, H0, A, ρ, r1, ok, e1, fun v1 H1 s1 h1 => ⟨true, rpB_bool (rpB_of ok s1 h1) e2, by rw [if_pos rfl]; exact q _ _ s1 rpX_bl⟩⟩
      · cases ev2
    · obtain ⟨r, ev, e9⟩ := evT_inv ev
      simp only [evE] at ev
      obtain ⟨r1, e1, ev2⟩ := bind_some ev
      split at ev2
      · rename_i e2
        exact ⟨O, H0, A, ρ, false, ok, evT_of e1 e2, fun H1 s1 => by show tT X.K _ σ H1 Q; exact ⟨O, H0, A, ρ, kk, ok.same s1, evT_of ev2 e9, fun H2 s2 => q H2 (s1.trans s2)⟩⟩
      · rename_i e2
        cases ev2
        cases e9
        exact ⟨O, H0, A, ρ, true, ok, evT_of e1 e2, fun H1 s1 => by show Q true H1; exact q H1 s1⟩
      · cases ev2
theorem soundEs : ∀ {sc : Sc} {es : List Expr} {xs : Es}, CEs c sc es xs → ∀ {X : Cx}, Good c k sc X → ∀ b, PA X es (tEs X.K xs b)
  | _, _, _, .nil, X, gd => s_nil
  | _, _, _, .cons h n t, X, gd => s_cons (soundE h gd) n (soundEs t gd)
theorem soundP : ∀ {sc : Sc} {e : Option Expr} {x : Oe}, CP c sc e x → ∀ {X : Cx}, Good c k sc X → PO X e (tP X.K x)
  | _, _, _, .no, X, gd => s_po trivial
  | _, _, _, .yes h, X, gd => s_po (soundE h gd)
theorem soundC : ∀ {sc : Sc} {es : List Expr} {x : Oe}, CC c sc es x → ∀ {X : Cx}, Good c k sc X → PTs X es (tC X.K x)
  | _, _, _, .no, X, gd => s_cno
  | _, _, _, .yes h, X, gd => s_cyes (soundE h gd)
theorem soundI : ∀ {sc : Sc} {e : Expr} {x : I}, CI c sc e x → ∀ {X : Cx}, Good c k sc X → ∀ {tg : Expr} (b : Bool), PI X tg e (tI X.K x b)
  | _, _, _, .rng h1 (.cons he n hs) hl, X, gd => s_rng gd h1 (.cons he n hs) hl (s_cons (soundE he gd) n (soundEs hs gd))
  | _, _, _, .seq h, X, gd => s_seq (soundE h gd)
end
end
end PV

set_option Elab.async false
set_option linter.all false
set_option maxRecDepth 100000
set_option maxHeartbeats 4000000
/-! PV10: statements as S, and that they do what evS says. -/
namespace PV
open PySem PySem.Spec PyProof.Rows L2

/-! ### the text -/
def noTup : Expr → Bool
  | .Tuple _ _ _ => false
  | _ => true
def noComp : Expr → Bool
  | .ListComp _ _ _ _ => false
  | .SetComp _ _ _ _ => false
  | .DictComp _ _ _ _ _ => false
  | _ => true
def nameCell (sc : Sc) : Expr → Bool
  | .Name x _ => match sc.lookup x with
    | some .cell => true
    | _ => false
  | _ => false
/-- a target and a value whose stores stand in their order -/
def plainSt (sc : Sc) : Expr → Expr → Bool
  | .Tuple ts _ _, .Tuple vs _ _ => !(ts.length == 2 || ts.length == 3) || vs.all (foldedForSure 8) || ts.any (nameCell sc)
  | .List _ _, _ => false
  | _, _ => true
/-- a value that is no comprehension that goes straight to its name -/
def noSwap (sc : Sc) : Expr → Expr → Bool
  | .Name x p, .ListComp _ _ s q => !(match sc.lookup x with | some .local => true | _ => false) || !(p.line == q.line) || s.names.any fun (n, k) => n == x && (k == .local || k == .cell)
  | _, e => noComp e || (match e with | .ListComp _ _ _ _ => true | _ => false)
/-- a comprehension that does -/
def yesSwap (sc : Sc) : Expr → Expr → Bool
  | .Name x p, .ListComp _ _ s q => (match sc.lookup x with | some .local => true | _ => false) && (p.line == q.line) && !(s.names.any fun (n, k) => n == x && (k == .local || k == .cell))
  | _, _ => false
def swapPair : Expr → Expr → Bool
  | a, b => !([a, b].all (foldedForSure 8)) && !([a, b].all (constantsAlone 8))
def swapTri : Expr → Expr → Expr → Bool
  | a, b, d => !([a, b, d].all (foldedForSure 8)) && !([a, b, d].all (constantsAlone 8))
mutual
inductive CS (c : Cfg) (sc : Sc) : Stmt → S → Prop
  | asg {tg e pos g x} : CG c sc tg g → CE c sc e x → noSwap sc tg e = true → plainSt sc tg e = true → CS c sc (.Assign [tg] e pos) (.asg g x)
  | asgs {x p e pos i y} : c.N[i]? = some x → loc sc x → CE c sc e y → noSwap sc (.Name x p) e = true → CS c sc (.Assign [.Name x p] e pos) (.asgs i y)
  | asgsLc {y py elt gs scope pos spos i x} : c.N[i]? = some y → sc.lookup y = some .local → CE c sc (.ListComp elt gs scope pos) x → yesSwap sc (.Name y py) (.ListComp elt gs scope pos) = true → CS c sc (.Assign [.Name y py] (.ListComp elt gs scope pos) spos) (.asgs i x)
  | asgLc {y py elt gs scope pos spos i x} : c.N[i]? = some y → sc.lookup y = some .local → CE c sc (.ListComp elt gs scope pos) x → yesSwap sc (.Name y py) (.ListComp elt gs scope pos) = true → CS c sc (.Assign [.Name y py] (.ListComp elt gs scope pos) spos) (.asg (.nm i) x)
  | par {x y px py kt pt a b k2 pt2 pos i j xa xb} : c.N[i]? = some x → c.N[j]? = some y → sc.lookup x = some .local → sc.lookup y = some .local → (x == y) = false → (px.line == py.line) = true → CE c sc a xa → CE c sc b xb → noStar a = true → noStar b = true → swapPair a b = true →
      CS c sc (.Assign [.Tuple [.Name x px, .Name y py] kt pt] (.Tuple [a, b] k2 pt2) pos) (.par i j xa xb)
  | par3 {x y z px py pz kt pt a b d k2 pt2 pos i j l xa xb xd} : c.N[i]? = some x → c.N[j]? = some y → c.N[l]? = some z → sc.lookup x = some .local → sc.lookup y = some .local → sc.lookup z = some .local → (x == y) = false → (x == z) = false → (y == z) = false → (px.line == py.line) = true → (px.line == pz.line) = true →
      CE c sc a xa → CE c sc b xb → CE c sc d xd → noStar a = true → noStar b = true → noStar d = true → swapTri a b d = true →
      CS c sc (.Assign [.Tuple [.Name x px, .Name y py, .Name z pz] kt pt] (.Tuple [a, b, d] k2 pt2) pos) (.par3 i j l xa xb xd)
  | app {x px e apos cpos pos i y} : c.N[i]? = some x → vis sc x → (x == ("__debug__" : Str)) = false → (x == ("__classdict__" : Str)) = false → CE c sc e y → noStar e = true → (apos.endLine == cpos.line) = true → CS c sc (.Expr (.Call (.Attribute (.Name x px) "append" apos) [e] [] cpos) pos) (.app i y)
  | ext {x px e apos cpos pos i y} : c.N[i]? = some x → vis sc x → (x == ("__debug__" : Str)) = false → (x == ("__classdict__" : Str)) = false → CE c sc e y → noStar e = true → (apos.endLine == cpos.line) = true → CS c sc (.Expr (.Call (.Attribute (.Name x px) "extend" apos) [e] [] cpos) pos) (.ext i y)
  | ins {x px a e apos cpos pos i y z} : c.N[i]? = some x → vis sc x → (x == ("__debug__" : Str)) = false → (x == ("__classdict__" : Str)) = false → CE c sc a z → CE c sc e y → noStar a = true → noStar e = true → (apos.endLine == cpos.line) = true → CS c sc (.Expr (.Call (.Attribute (.Name x px) "insert" apos) [a, e] [] cpos) pos) (.ins i z y)
  | put {x px a e p pos i y z} : c.N[i]? = some x → vis sc x → (x == ("__debug__" : Str)) = false → (x == ("__classdict__" : Str)) = false → CE c sc a z → CE c sc e y → noSlice a = true → noComp e = true → CS c sc (.Assign [.Subscript (.Name x px) a p] e pos) (.put i z y)
  | pop {tg g x px apos cpos pos i} : CG c sc tg g → c.N[i]? = some x → vis sc x → (x == ("__debug__" : Str)) = false → (x == ("__classdict__" : Str)) = false → (apos.endLine == cpos.line) = true → CS c sc (.Assign [tg] (.Call (.Attribute (.Name x px) "pop" apos) [] [] cpos) pos) (.pop g i)
  | ret {e pos x} : CE c sc e x → CS c sc (.Return (some e) pos) (.ret x)
  | retN {pos} : CS c sc (.Return none pos) .retN
  | ite {t a b pos z xa xb} : CE c sc t z → CSs c sc a xa → CSs c sc b xb → CS c sc (.If t a b pos) (.ite z xa xb)
  | for_ {tg iter body pos g it b} : CG c sc tg g → CI c sc iter it → noSet iter = true → CSs c sc body b → CS c sc (.For tg iter body [] pos) (.for_ g it b)
  | while_ {t body pos z b} : CE c sc t z → CSs c sc body b → CS c sc (.While t body [] pos) (.while_ z b)
  | never {st} : CS c sc st .never
inductive CSs (c : Cfg) (sc : Sc) : List Stmt → Ss → Prop
  | nil : CSs c sc [] .nil
  | cons {st sts s ss} : CS c sc st s → CSs c sc sts ss → CSs c sc (st :: sts) (.cons s ss)
  | share {sts ss i} : CSs c sc sts ss → CSs c sc sts (.cons (.share i) ss)
end

/-! ### readings -/
/-- from one state to a later one: what is no owned list stays; owned lists are the same or new ones -/
def Stp (O : Set0) (A : Nat → Option Addr) (H : Hp) (A' : Nat → Option Addr) (H' : Hp) : Prop := (∀ a o, H a = some o → ¬ Ow O A a → H' a = some o) ∧ ∀ a, Ow O A' a → Ow O A a ∨ H a = none
theorem Stp.refl {O : Set0} {A : Nat → Option Addr} {H : Hp} : Stp O A H A H := ⟨fun _ _ e _ => e, fun _ z => .inl z⟩
theorem Stp.same {O : Set0} {A : Nat → Option Addr} {H H' : Hp} (s : Same H H') : Stp O A H A H' := ⟨fun _ _ e _ => s _ _ e, fun _ z => .inl z⟩
theorem Stp.trans {O : Set0} {A A1 A2 : Nat → Option Addr} {H H1 H2 : Hp} (a : Stp O A H A1 H1) (b : Stp O A1 H1 A2 H2) : Stp O A H A2 H2 := by
  refine ⟨fun x o e n => b.1 _ _ (a.1 _ _ e n) fun z => ?_, fun x z => ?_⟩
  · rcases a.2 _ z with z | z
    · exact n z
    · rw [e] at z; cases z
  · rcases b.2 _ z with z | z
    · exact a.2 _ z
    · by_cases h : Ow O A x
      · exact .inl h
      · cases q : H x with
        | none => exact .inr rfl
        | some o => rw [a.1 _ _ q h] at z; cases z
def Post (K : PySem.W.Frag) (O : Set0) (H0 : Hp) (A : Nat → Option Addr) (H : Hp) (D : Ends) : Out → Prop
  | .nx ρ' => ∀ A' σ' H', Ok K O H0 A' H' σ' ρ' → Stp O A H A' H' → D.nx σ' H'
  | .bk ρ' => ∀ A' σ' H', Ok K O H0 A' H' σ' ρ' → Stp O A H A' H' → D.bk σ' H'
  | .ct ρ' => ∀ A' σ' H', Ok K O H0 A' H' σ' ρ' → Stp O A H A' H' → D.ct σ' H'
  | .rt r => ∀ v H', Same H0 H' → RpR K H0 H' O false v r → D.rt v H'
theorem Post.later {K : PySem.W.Frag} {O : Set0} {H0 : Hp} {A A1 : Nat → Option Addr} {H H1 : Hp} {D : Ends} {out : Out} (h : Post K O H0 A H D out) (s : Stp O A H A1 H1) : Post K O H0 A1 H1 D out := by
  cases out with
  | nx ρ' => exact fun A' σ' H' ok s' => h A' σ' H' ok (s.trans s')
  | bk ρ' => exact fun A' σ' H' ok s' => h A' σ' H' ok (s.trans s')
  | ct ρ' => exact fun A' σ' H' ok s' => h A' σ' H' ok (s.trans s')
  | rt r => exact h
def tS (K : PySem.W.Frag) (n : Nat) (s : S) : TS := fun D σ H => ∃ (O : Set0) (H0 : Hp) (A : Nat → Option Addr) (ρ : Sl) (out : Out), Ok K O H0 A H σ ρ ∧ evS n s ρ = some out ∧ Post K O H0 A H D out
def tSs (K : PySem.W.Frag) (n : Nat) (s : Ss) : TS := fun D σ H => ∃ (O : Set0) (H0 : Hp) (A : Nat → Option Addr) (ρ : Sl) (out : Out), Ok K O H0 A H σ ρ ∧ evSs n s ρ = some out ∧ Post K O H0 A H D out
section
variable {X : Cx}
theorem PS.imp {st : Stmt} {t t' : TS} (h : PS X st t) (i : ∀ D σ H, t' D σ H → t D σ H) : PS X st t' := ⟨fun pins s σ H D I q => h.run pins s σ H D I (i D σ H q)⟩
theorem PSs.imp {st : List Stmt} {t t' : TS} (h : PSs X st t) (i : ∀ D σ H, t' D σ H → t D σ H) : PSs X st t' := ⟨fun pins s σ H D I q => h.run pins s σ H D I (i D σ H q)⟩
end

/-! ### stores -/
section
variable {K : PySem.W.Frag} {O : Set0} {H0 H H1 H' : Hp} {A : Nat → Option Addr} {σ : L2.St} {ρ : Sl}
/-- any value goes into a slot -/
theorem Ok.store (ok : Ok K O H0 A H σ ρ) (s : Same H H') {i : Nat} {v : V} {r : R} (h : RpR K H H' (Ow O A) false v r) :
    ∃ A', Ok K O H0 A' H' (σ.set i (some v)) (ρ.set i (some r)) ∧ Stp O A H A' H' := by
  obtain ⟨fl, d⟩ := r
  cases fl with
  | false => exact ⟨A, (ok.same s).set h, Stp.same s⟩
  | true =>
    obtain ⟨a, xs, ds, e1, e2, e3, e4, h⟩ := h
    have e2 : d = .list ds := e2
    subst e1 e2
    refine ⟨_, ok.setOwn s e4 e3 h, fun _ _ e _ => s _ _ e, fun x z => ?_⟩
    rcases z with z | ⟨j, z⟩
    · exact .inl (.inl z)
    · by_cases hj : j = i
      · simp only [hj, if_true] at z
        exact .inr (by rw [← Option.some.inj z]; exact e4)
      · simp only [hj, if_false] at z
        exact .inl (.inr ⟨j, z⟩)
theorem own_inv {i : Nat} {ds : List PyData} (h : own ρ i = some ds) : ρ[i]? = some (some (true, .list ds)) := by
  unfold own at h
  split at h
  · rename_i e; cases h; exact e
  · cases h
theorem Ok.owned (ok : Ok K O H0 A H σ ρ) {i : Nat} {ds : List PyData} (h : own ρ i = some ds) : ∃ a xs, A i = some a ∧ σ[i]? = some (some (.ref a)) ∧ H a = some (.lst xs) ∧ RpA K H (Ow O A) xs ds := by
  obtain ⟨v, e, a, xs, ds', q1, q2, q3, q4, h⟩ := ok.val i _ (own_inv h)
  cases q3
  subst q2
  exact ⟨a, xs, q1, e, q4, h⟩
theorem Stp.upd {i : Nat} {a : Addr} {o : HO} (hA : A i = some a) : Stp O A H A (L2.upd H a o) :=
  ⟨fun b u e n => by rw [upd_ne (fun z => n (.inr ⟨i, by rw [z]; exact hA⟩))]; exact e, fun _ z => .inl z⟩
end
end PV

set_option Elab.async false
set_option linter.all false
set_option maxRecDepth 100000
set_option maxHeartbeats 4000000
/-! PV11: soundness of statements. -/
namespace PV
open PySem PySem.Spec PyProof.Rows L2
theorem sw_fold {ts vs : List Expr} {k k2 : Nat} {p p2 : Pos} {env : Env} (h : vs.all (foldedForSure 8) = true) : swappedStores [.Tuple ts k p] (.Tuple vs k2 p2) env = pure none := by
  unfold swappedStores
  simp only [h, if_true]
  repeat' split
  all_goals rfl
theorem sw_len {ts vs : List Expr} {k k2 : Nat} {p p2 : Pos} {env : Env} (h : (ts.length == 2 || ts.length == 3) = false) : swappedStores [.Tuple ts k p] (.Tuple vs k2 p2) env = pure none := by
  unfold swappedStores
  simp only [h, Bool.not_false, Bool.true_or, if_true]
theorem sw_cell {ts vs : List Expr} {k k2 : Nat} {p p2 px : Pos} {env : Env} {x : Str} (hm : Expr.Name x px ∈ ts) (hk : (env.kindOf x == some NameKind.local) = false) : swappedStores [.Tuple ts k p] (.Tuple vs k2 p2) env = pure none := by
  unfold swappedStores
  dsimp only
  split
  · rfl
  · split
    · rfl
    · rw [if_pos]
      rw [Bool.or_eq_true]
      left
      rw [bne_iff_ne]
      intro e
      have := List.filterMap_length_eq_length.mp e _ hm
      simp [hk] at this
theorem sw_pair {a b : Expr} {x y : Str} {px py p p2 : Pos} {k k2 : Nat} {env : Env} (hb : env.blockKind = .function) (hx : env.kindOf x = some .local) (hy : env.kindOf y = some .local) (ne : (x == y) = false) (hl : (px.line == py.line) = true) (na : noStar a = true) (nb : noStar b = true) (hs : swapPair a b = true) :
    swappedStores [.Tuple [.Name x px, .Name y py] k p] (.Tuple [a, b] k2 p2) env = pure (some [x, y]) := by
  have hl' : py.line = px.line := (beq_iff_eq.mp hl).symm
  have q1 : (y == x) = false := by rw [Bool.beq_comm]; exact ne
  unfold swapPair at hs
  rw [Bool.and_eq_true, Bool.not_eq_true', Bool.not_eq_true'] at hs
  unfold swappedStores
  dsimp only
  rw [if_neg, if_neg, if_neg, if_neg, if_neg]
  · simp [hx, hy, Expr.pos, hl']
  · rw [hs.2]; exact Bool.false_ne_true
  · rw [hs.1]; exact Bool.false_ne_true
  · simp [hx, hy, Expr.pos, hl', List.eraseDups_cons, q1]
  · intro h
    rw [List.any_eq_true] at h
    obtain ⟨z, hz, h⟩ := h
    have nz : noStar z = true := by
      simp only [List.mem_cons, List.not_mem_nil, or_false] at hz
      rcases hz with rfl | rfl <;> assumption
    cases z <;> first | exact absurd h Bool.false_ne_true | exact (nomatch (show false = true from nz))
  · simp [hb]
theorem sw_tri {a b d : Expr} {x y z : Str} {px py pz p p2 : Pos} {k k2 : Nat} {env : Env} (hb : env.blockKind = .function) (hx : env.kindOf x = some .local) (hy : env.kindOf y = some .local) (hz : env.kindOf z = some .local) (ne : (x == y) = false) (ne2 : (x == z) = false) (ne3 : (y == z) = false)
    (hl : (px.line == py.line) = true) (hl2 : (px.line == pz.line) = true) (na : noStar a = true) (nb : noStar b = true) (nd : noStar d = true) (hs : swapTri a b d = true) :
    swappedStores [.Tuple [.Name x px, .Name y py, .Name z pz] k p] (.Tuple [a, b, d] k2 p2) env = pure (some [x, y, z]) := by
  have hl' : py.line = px.line := (beq_iff_eq.mp hl).symm
  have hl2' : pz.line = px.line := (beq_iff_eq.mp hl2).symm
  have q1 : (y == x) = false := by rw [Bool.beq_comm]; exact ne
  have q2 : (z == x) = false := by rw [Bool.beq_comm]; exact ne2
  have q3 : (z == y) = false := by rw [Bool.beq_comm]; exact ne3
  unfold swapTri at hs
  rw [Bool.and_eq_true, Bool.not_eq_true', Bool.not_eq_true'] at hs
  unfold swappedStores
  dsimp only
  rw [if_neg, if_neg, if_neg, if_neg, if_neg]
  · simp [hx, hy, hz, Expr.pos, hl', hl2']
  · rw [hs.2]; exact Bool.false_ne_true
  · rw [hs.1]; exact Bool.false_ne_true
  · simp [hx, hy, hz, Expr.pos, hl', hl2', List.eraseDups_cons, q1, q2, q3]
  · intro h
    rw [List.any_eq_true] at h
    obtain ⟨z, hz, h⟩ := h
    have nz : noStar z = true := by
      simp only [List.mem_cons, List.not_mem_nil, or_false] at hz
      rcases hz with rfl | rfl | rfl <;> assumption
    cases z <;> first | exact absurd h Bool.false_ne_true | exact (nomatch (show false = true from nz))
  · simp [hb]
section
variable {X : Cx} {c : Cfg} {k : Nat} {sc : Sc}
theorem blockKind_of (gd : Good c k sc X) : X.env.blockKind = .function := by unfold Env.blockKind; rw [gd.kind]; rfl
theorem kind_loc (gd : Good c k sc X) {x : Str} (h : sc.lookup x = some .local) : X.env.kindOf x = some .local := gd.lc x h
theorem kind_cell (gd : Good c k sc X) {x : Str} (h : sc.lookup x = some .cell) : X.env.kindOf x = some .cell := (gd.cl x h).1
theorem noSwap_ok (gd : Good c k sc X) {tg e : Expr} {g : G} (hg : CG c sc tg g) (h : noSwap sc tg e = true) (l : Nat) : swapsWithSole [tg] e l X.env = pure false := by
  show swapsWith e (some tg) l X.env = pure false
  cases hg with
  | @nm x p i h1 h2 =>
    cases e <;> try rfl
    · rename_i elt gs s q
      have h : (!(match sc.lookup x with | some .local => true | _ => false) || !(p.line == q.line) || s.names.any fun (n, k) => n == x && (k == .local || k == .cell)) = true := h
      unfold swapsWith
      show pure (X.env.blockKind == .function && X.env.kindOf x == some .local && p.line == q.line && !(s.names.any fun (n, k) => n == x && (k == .local || k == .cell))) = pure false
      congr 1
      rcases h2 with h2 | h2
      · rw [h2] at h
        simp only [Bool.not_true, Bool.false_or, Bool.or_eq_true] at h
        rcases h with h | h
        · rw [Bool.not_eq_true'] at h
          rw [h]; simp
        · rw [h]; simp
      · rw [kind_cell gd h2]
        simp
    · cases h
    · cases h
  | two => cases e <;> first | rfl | cases h
  | thr => cases e <;> first | rfl | cases h
  | fou => cases e <;> first | rfl | cases h
theorem yesSwap_ok (gd : Good c k sc X) {y : Str} {py pos : Pos} {elt : Expr} {gs : List Comprehension} {scope : Scope} (h : yesSwap sc (.Name y py) (.ListComp elt gs scope pos) = true) (l : Nat) : swapsWith (.ListComp elt gs scope pos) (some (.Name y py)) l X.env = pure true := by
  have h : ((match sc.lookup y with | some .local => true | _ => false) && (py.line == pos.line) && !(scope.names.any fun (n, k) => n == y && (k == .local || k == .cell))) = true := h
  simp only [Bool.and_eq_true] at h
  obtain ⟨⟨h1, h2⟩, h3⟩ := h
  have h1 : sc.lookup y = some .local := by
    split at h1
    · assumption
    · cases h1
  exact sw_true gd.kind (gd.lc y h1) h2 (by simpa using h3)
theorem cell_at (gd : Good c k sc X) {ts : List Expr} (h : ts.any (nameCell sc) = true) : ∃ x px, Expr.Name x px ∈ ts ∧ (X.env.kindOf x == some NameKind.local) = false := by
  rw [List.any_eq_true] at h
  obtain ⟨t, ht, h⟩ := h
  cases t <;> try exact absurd h Bool.false_ne_true
  rename_i x px
  have h : (match sc.lookup x with | some .cell => true | _ => false) = true := h
  have e : sc.lookup x = some .cell := by
    split at h
    · assumption
    · cases h
  exact ⟨x, px, ht, by rw [kind_cell gd e]; rfl⟩
theorem plainSt_tup (gd : Good c k sc X) {ts vs : List Expr} {k1 k2 : Nat} {p1 p2 : Pos} (h : plainSt sc (.Tuple ts k1 p1) (.Tuple vs k2 p2) = true) : swappedStores [.Tuple ts k1 p1] (.Tuple vs k2 p2) X.env = pure none := by
  have h : (!(ts.length == 2 || ts.length == 3) || vs.all (foldedForSure 8) || ts.any (nameCell sc)) = true := h
  rw [Bool.or_eq_true, Bool.or_eq_true] at h
  rcases h with (h | h) | h
  · exact sw_len (by simpa using h)
  · exact sw_fold h
  · obtain ⟨x, px, hm, hk⟩ := cell_at gd h
    exact sw_cell hm hk
theorem plainSt_ok (gd : Good c k sc X) {tg e : Expr} {g : G} (hg : CG c sc tg g) (h : plainSt sc tg e = true) : swappedStores [tg] e X.env = pure none := by
  cases hg with
  | nm => cases e <;> rfl
  | two ha hb => cases e <;> first | rfl | exact plainSt_tup gd h
  | thr ha hb hd => cases e <;> first | rfl | exact plainSt_tup gd h
  | fou ha hb hd he => cases e <;> first | rfl | exact plainSt_tup gd h
theorem pair_ne {N : List Str} (nd : N.Nodup) {i j : Nat} {x y : Str} (hi : N[i]? = some x) (hj : N[j]? = some y) (ne : (x == y) = false) : i ≠ j := fun e => by
  subst e
  rw [hi] at hj
  cases hj
  simp at ne

/-! ### one statement each -/
variable {n : Nat}
theorem s_asg (gd : Good c k sc X) {tg e : Expr} {pos : Pos} {g : G} {x : E} (hg : CG c sc tg g) (he : Both X e x) (h1 : noSwap sc tg e = true) (h2 : plainSt sc tg e = true) : PS X (.Assign [tg] e pos) (tS X.K n (.asg g x)) := by
  have h0 : (assignEach [tg] X.env).map (·.2) = [assign tg X.env] := by rw [assignEach_cons (noStarG hg)]; rfl
  match tg, g, hg, h1, h2, h0 with
  | _, _, .nm (x := y) (i := i) hi hl, h1, h2, h0 =>
    refine PS.imp (ps_asg (he.1 false) (pg_name (i := i) (by rw [gd.hN]; exact gd.nd) (by rw [gd.hN]; exact hi) (gd.loc hl).1 (gd.loc hl).2) (noSwap_ok gd (.nm hi hl) h1 _) (plainSt_ok gd (.nm hi hl) h2) h0) fun D σ H ⟨O, H0, A, ρ, out, ok, ev, q⟩ => ?_
    simp only [evS, asgR] at ev
    obtain ⟨r, e1, ev2⟩ := bind_some ev
    cases ev2
    refine ⟨O, H0, A, ρ, r, ok, e1, fun v H1 s1 h1 => ?_⟩
    obtain ⟨A', ok', st⟩ := ok.store s1 h1.toR
    exact q A' _ H1 ok' st
  | _, _, .two ha hb, h1, h2, h0 =>
    refine PS.imp (ps_asg (he.1 false) (soundG gd (.two ha hb)) (noSwap_ok gd (.two ha hb) h1 _) (plainSt_ok gd (.two ha hb) h2) h0) fun D σ H ⟨O, H0, A, ρ, out, ok, ev, q⟩ => ?_
    simp only [evS, asgR] at ev
    obtain ⟨r, e1, ev2⟩ := bind_some ev
    obtain ⟨ρ', e2, e3⟩ := map_some ev2
    subst e3
    exact ⟨O, H0, A, ρ, r, ok, e1, fun v H1 s1 h1 => ⟨O, H0, A, ρ, ρ', r.2, ok.same s1, ok.down s1 h1.toR, e2, fun σ' ok' _ => q A σ' H1 ok' (Stp.same s1)⟩⟩
  | _, _, .thr ha hb hd, h1, h2, h0 =>
    refine PS.imp (ps_asg (he.1 false) (soundG gd (.thr ha hb hd)) (noSwap_ok gd (.thr ha hb hd) h1 _) (plainSt_ok gd (.thr ha hb hd) h2) h0) fun D σ H ⟨O, H0, A, ρ, out, ok, ev, q⟩ => ?_
    simp only [evS, asgR] at ev
    obtain ⟨r, e1, ev2⟩ := bind_some ev
    obtain ⟨ρ', e2, e3⟩ := map_some ev2
    subst e3
    exact ⟨O, H0, A, ρ, r, ok, e1, fun v H1 s1 h1 => ⟨O, H0, A, ρ, ρ', r.2, ok.same s1, ok.down s1 h1.toR, e2, fun σ' ok' _ => q A σ' H1 ok' (Stp.same s1)⟩⟩
  | _, _, .fou ha hb hd he', h1, h2, h0 =>
    refine PS.imp (ps_asg (he.1 false) (soundG gd (.fou ha hb hd he')) (noSwap_ok gd (.fou ha hb hd he') h1 _) (plainSt_ok gd (.fou ha hb hd he') h2) h0) fun D σ H ⟨O, H0, A, ρ, out, ok, ev, q⟩ => ?_
    simp only [evS, asgR] at ev
    obtain ⟨r, e1, ev2⟩ := bind_some ev
    obtain ⟨ρ', e2, e3⟩ := map_some ev2
    subst e3
    exact ⟨O, H0, A, ρ, r, ok, e1, fun v H1 s1 h1 => ⟨O, H0, A, ρ, ρ', r.2, ok.same s1, ok.down s1 h1.toR, e2, fun σ' ok' _ => q A σ' H1 ok' (Stp.same s1)⟩⟩
/-- the new list's address -/
def newOf : R → V → Set0
  | (true, _), .ref a => fun x => x = a
  | _, _ => fun _ => False
/-- the second of two values, the first one standing by -/
theorem Ok.beside {K : PySem.W.Frag} {O : Set0} {H0 H H1 : Hp} {A : Nat → Option Addr} {σ : L2.St} {ρ : Sl} (ok : Ok K O H0 A H σ ρ) (s : Same H H1) {v : V} {r : R} (h : RpR K H H1 (Ow O A) false v r) (i : Nat) :
    ∃ O' H0' A1, Ok K O' H0' A H1 σ ρ ∧ Ok K O H0 A1 H1 (σ.set i (some v)) (ρ.set i (some r)) ∧ Stp O A H A1 H1 ∧ (∀ a, Ow O A1 a → Ow O A a ∨ newOf r v a) ∧ ∀ a, Ow O A a ∨ newOf r v a → Ow O' A a := by
  obtain ⟨fl, d⟩ := r
  cases fl with
  | false => exact ⟨O, H0, A, ok.same s, (ok.same s).set h, Stp.same s, fun _ z => .inl z, fun _ z => z.elim _root_.id fun z => (show False from z).elim⟩
  | true =>
    obtain ⟨a, xs, ds, e1, e2, e3, e4, h'⟩ := h
    have e2 : d = .list ds := e2
    subst e1 e2
    have lem : ∀ x, Ow O (fun j => if j = i then some a else A j) x → Ow O A x ∨ x = a := fun x z => by
      rcases z with z | ⟨j, z⟩
      · exact .inl (.inl z)
      · by_cases hj : j = i
        · simp only [hj, if_true] at z
          exact .inr (Option.some.inj z).symm
        · simp only [hj, if_false] at z
          exact .inl (.inr ⟨j, z⟩)
    refine ⟨_, _, _, ok.with s e4 e3, ok.setOwn s e4 e3 h', ⟨fun _ _ e _ => s _ _ e, fun x z => (lem x z).elim .inl fun e => .inr (by rw [e]; exact e4)⟩, lem, fun x z => ?_⟩
    rcases z with (z | z) | z
    · exact .inl (.inl z)
    · exact .inr z
    · exact .inl (.inr z)
theorem RpR.fewer {K : PySem.W.Frag} {H H1 : Hp} {P P' : Set0} {v : V} {r : R} (h : RpR K H H1 P false v r) (hp : ∀ a, P' a → P a) : RpR K H H1 P' false v r := by
  obtain ⟨fl, d⟩ := r
  cases fl with
  | false => exact Rp.less h hp
  | true =>
    obtain ⟨a, xs, ds, e1, e2, e3, e4, h⟩ := h
    exact ⟨a, xs, ds, e1, e2, e3, e4, h.less fun x z => z.elim (fun z => .inl (hp x z)) .inr⟩
theorem s_par (gd : Good c k sc X) {x y : Str} {px py pt pt2 pos : Pos} {kt k2 i j : Nat} {a b : Expr} {xa xb : E} (hi : c.N[i]? = some x) (hj : c.N[j]? = some y) (hx : sc.lookup x = some .local) (hy : sc.lookup y = some .local) (ne : (x == y) = false) (hl : (px.line == py.line) = true)
    (ha : Both X a xa) (hb : Both X b xb) (na : noStar a = true) (nb : noStar b = true) (hs : swapPair a b = true) : PS X (.Assign [.Tuple [.Name x px, .Name y py] kt pt] (.Tuple [a, b] k2 pt2) pos) (tS X.K n (.par i j xa xb)) := by
  refine PS.imp (ps_par gd.calm (by rw [gd.hN]; exact gd.nd) (by rw [gd.hN]; exact hi) (by rw [gd.hN]; exact hj) (pair_ne gd.nd hi hj ne) (gd.lc x hx) (gd.lc y hy) (pa_cons (ha.1 false) (pa_cons (hb.1 false) pa_nil (starEach_cons nb)) (starEach_cons na))
    (sw_pair (blockKind_of gd) (kind_loc gd hx) (kind_loc gd hy) ne hl na nb hs)) fun D σ H ⟨O, H0, A, ρ, out, ok, ev, q⟩ => ?_
  simp only [evS] at ev
  obtain ⟨r1, e1, ev2⟩ := bind_some ev
  obtain ⟨r2, e2, e3⟩ := map_some ev2
  subst e3
  refine ⟨O, H0, A, ρ, r1, ok, e1, fun v1 H1 s1 h1 => ?_⟩
  obtain ⟨O', H0', A1, okB, ok1, st, sub, sup⟩ := ok.beside s1 h1.toR i
  refine ⟨O', H0', A, ρ, r2, okB, e2, fun v2 H2 s2 h2 => ⟨v1, v2, rfl, ?_⟩⟩
  obtain ⟨A2, ok2, st2⟩ := ok1.store (i := j) s2 (h2.toR.fewer fun a z => sup a (sub a z))
  exact q A2 _ H2 ok2 (st.trans st2)
theorem s_par3 (gd : Good c k sc X) {x y z : Str} {px py pz pt pt2 pos : Pos} {kt k2 i j l : Nat} {a b d : Expr} {xa xb xd : E} (hi : c.N[i]? = some x) (hj : c.N[j]? = some y) (hl : c.N[l]? = some z) (hx : sc.lookup x = some .local) (hy : sc.lookup y = some .local) (hz : sc.lookup z = some .local)
    (ne : (x == y) = false) (ne2 : (x == z) = false) (ne3 : (y == z) = false) (hl1 : (px.line == py.line) = true) (hl2 : (px.line == pz.line) = true)
    (ha : Both X a xa) (hb : Both X b xb) (hd : Both X d xd) (na : noStar a = true) (nb : noStar b = true) (nd : noStar d = true) (hs : swapTri a b d = true) : PS X (.Assign [.Tuple [.Name x px, .Name y py, .Name z pz] kt pt] (.Tuple [a, b, d] k2 pt2) pos) (tS X.K n (.par3 i j l xa xb xd)) := by
  refine PS.imp (ps_par3 gd.calm (by rw [gd.hN]; exact gd.nd) (by rw [gd.hN]; exact hi) (by rw [gd.hN]; exact hj) (by rw [gd.hN]; exact hl) (pair_ne gd.nd hi hj ne) (pair_ne gd.nd hi hl ne2) (pair_ne gd.nd hj hl ne3) (gd.lc x hx) (gd.lc y hy) (gd.lc z hz)
    (pa_cons (ha.1 false) (pa_cons (hb.1 false) (pa_cons (hd.1 false) pa_nil (starEach_cons nd)) (starEach_cons nb)) (starEach_cons na))
    (sw_tri (blockKind_of gd) (kind_loc gd hx) (kind_loc gd hy) (kind_loc gd hz) ne ne2 ne3 hl1 hl2 na nb nd hs)) fun D σ H ⟨O, H0, A, ρ, out, ok, ev, q⟩ => ?_
  simp only [evS] at ev
  obtain ⟨r1, e1, ev2⟩ := bind_some ev
  obtain ⟨r2, e2, ev3⟩ := bind_some ev2
  obtain ⟨r3, e3, e4⟩ := map_some ev3
  subst e4
  refine ⟨O, H0, A, ρ, r1, ok, e1, fun v1 H1 s1 h1 => ?_⟩
  obtain ⟨O', H0', A1, okB, ok1, st, sub, sup⟩ := ok.beside s1 h1.toR i
  refine ⟨O', H0', A, ρ, r2, okB, e2, fun v2 H2 s2 h2 => ?_⟩
  obtain ⟨O2, H02, _, okC, _, _, _, sup2⟩ := okB.beside s2 h2.toR j
  obtain ⟨_, _, A2, _, ok2, st2, sub3, _⟩ := ok1.beside s2 (h2.toR.fewer fun a z => sup a (sub a z)) j
  refine ⟨O2, H02, A, ρ, r3, okC, e3, fun v3 H3 s3 h3 => ⟨v1, v2, v3, rfl, ?_⟩⟩
  obtain ⟨A3, ok3, st3⟩ := ok2.store (i := l) s3 (h3.toR.fewer fun a z => sup2 a ((sub3 a z).elim (fun z => .inl (sup a (sub a z))) .inr))
  exact q A3 _ H3 ok3 (st.trans (st2.trans st3))
/-- methods of an owned list -/
theorem s_app (gd : Good c k sc X) {x : Str} {px apos cpos pos : Pos} {e : Expr} {i : Nat} {y : E} (hi : c.N[i]? = some x) (hv : vis sc x) (hd : (x == ("__debug__" : Str)) = false) (hcd : (x == ("__classdict__" : Str)) = false) (he : Both X e y) (ne : noStar e = true) (hl : (apos.endLine == cpos.line) = true) :
    PS X (.Expr (.Call (.Attribute (.Name x px) "append" apos) [e] [] cpos) pos) (tS X.K n (.app i y)) := by
  have h1 : starEach [e] X.env = (false, eval e X.env) :: starEach [] X.env := starEach_cons ne
  refine PS.imp (ps_expr (pe_bm PySem.F.plainAttrs_list PySem.F.slot_list_append PySem.F.type_list_append mt_append (pe_var (i := i) (by rw [gd.hN]; exact hi) (gd.vis hv) hd hcd) (pa_cons (he.1 false) pa_nil h1) rfl (by rw [h1]; rfl) hl h1 rfl)) fun D σ H ⟨O, H0, A, ρ, out, ok, ev, q⟩ => ?_
  simp only [evS] at ev
  obtain ⟨ds, e1, ev2⟩ := bind_some ev
  obtain ⟨r, e2, ev3⟩ := bind_some ev2
  split at ev3
  case isFalse => cases ev3
  rename_i hz
  cases ev3
  obtain ⟨a, xs, hA, hs, hH, hr⟩ := ok.owned e1
  refine ⟨.ref a, hs, .inl ⟨rfl, xs, .inl (.inl hH)⟩, ⟨O, H0, A, ρ, r, ok, e2, fun v H1 s1 h1 => ?_⟩⟩
  refine ⟨a, xs, v, rfl, rfl, s1 _ _ hH, ?_, ?_⟩
  · have := lenOk_le hz
    have l := hr.length
    omega
  · have ok1 := ok.same s1
    exact q A σ _ (ok1.upd hA hs ((hr.same s1).append (.one (ok.down s1 h1.toR)))) ((Stp.same s1).trans (Stp.upd hA))
theorem s_ext (gd : Good c k sc X) {x : Str} {px apos cpos pos : Pos} {e : Expr} {i : Nat} {y : E} (hi : c.N[i]? = some x) (hv : vis sc x) (hd : (x == ("__debug__" : Str)) = false) (hcd : (x == ("__classdict__" : Str)) = false) (he : Both X e y) (ne : noStar e = true) (hl : (apos.endLine == cpos.line) = true) :
    PS X (.Expr (.Call (.Attribute (.Name x px) "extend" apos) [e] [] cpos) pos) (tS X.K n (.ext i y)) := by
  have h1 : starEach [e] X.env = (false, eval e X.env) :: starEach [] X.env := starEach_cons ne
  refine PS.imp (ps_expr (pe_bm PySem.F.plainAttrs_list PySem.F.slot_list_extend PySem.F.type_list_extend mt_extendS (pe_var (i := i) (by rw [gd.hN]; exact hi) (gd.vis hv) hd hcd) (pa_cons (he.1 false) pa_nil h1) rfl (by rw [h1]; rfl) hl h1 rfl)) fun D σ H ⟨O, H0, A, ρ, out, ok, ev, q⟩ => ?_
  simp only [evS] at ev
  obtain ⟨ds, e1, ev2⟩ := bind_some ev
  obtain ⟨r, e2, ev3⟩ := bind_some ev2
  obtain ⟨a, xs, hA, hs, hH, hr⟩ := ok.owned e1
  refine ⟨.ref a, hs, .inl ⟨rfl, xs, .inl (.inl hH)⟩, ⟨O, H0, A, ρ, r, ok, e2, fun v H1 s1 h1 => ?_⟩⟩
  have hd := ok.down s1 h1.toR
  obtain ⟨fl, d⟩ := r
  cases d <;> try cases ev3
  case list es =>
    have ev3 : (if lenOk (ds.length + es.length) then some (Out.nx (ρ.set i (some (true, .list (ds ++ es))))) else none) = some out := ev3
    split at ev3
    case isFalse => cases ev3
    rename_i hz
    cases ev3
    cases hd with
    | @lst b ys _ h2 h3 h4 =>
      refine ⟨a, b, xs, ys, rfl, rfl, s1 _ _ hH, .inl h2, ?_, ?_⟩
      · rw [hr.length, h4.length]; exact lenOk_le hz
      · have ok1 := ok.same s1
        exact q A σ _ (ok1.upd hA hs ((hr.same s1).append h4)) ((Stp.same s1).trans (Stp.upd hA))
  case tuple es =>
    have ev3 : (if lenOk (ds.length + es.length) then some (Out.nx (ρ.set i (some (true, .list (ds ++ es))))) else none) = some out := ev3
    split at ev3
    case isFalse => cases ev3
    rename_i hz
    cases ev3
    obtain ⟨b, ys, rfl, h2, h4⟩ := RpB.tuple (.inl hd)
    refine ⟨a, b, xs, ys, rfl, rfl, s1 _ _ hH, .inr h2, ?_, ?_⟩
    · rw [hr.length, h4.length]; exact lenOk_le hz
    · have ok1 := ok.same s1
      exact q A σ _ (ok1.upd hA hs ((hr.same s1).append h4)) ((Stp.same s1).trans (Stp.upd hA))
theorem s_ins (gd : Good c k sc X) {x : Str} {px apos cpos pos : Pos} {a e : Expr} {i : Nat} {z y : E} (hi : c.N[i]? = some x) (hv : vis sc x) (hd : (x == ("__debug__" : Str)) = false) (hcd : (x == ("__classdict__" : Str)) = false) (ha : Both X a z) (he : Both X e y) (na : noStar a = true) (ne : noStar e = true) (hl : (apos.endLine == cpos.line) = true) :
    PS X (.Expr (.Call (.Attribute (.Name x px) "insert" apos) [a, e] [] cpos) pos) (tS X.K n (.ins i z y)) := by
  have h1 : starEach [e] X.env = (false, eval e X.env) :: starEach [] X.env := starEach_cons ne
  have h2 : starEach [a, e] X.env = (false, eval a X.env) :: starEach [e] X.env := starEach_cons na
  refine PS.imp (ps_expr (pe_bm PySem.F.plainAttrs_list PySem.F.slot_list_insert PySem.F.type_list_insert mt_insert (pe_var (i := i) (by rw [gd.hN]; exact hi) (gd.vis hv) hd hcd) (pa_cons (ha.1 true) (pa_cons (he.1 false) pa_nil h1) h2) rfl (by rw [h2, h1]; rfl) hl h2 (by rw [h1]; rfl))) fun D σ H ⟨O, H0, A, ρ, out, ok, ev, q⟩ => ?_
  simp only [evS] at ev
  obtain ⟨ds, e1, ev2⟩ := bind_some ev
  obtain ⟨r1, e2, ev3⟩ := bind_some ev2
  obtain ⟨r, e3, ev4⟩ := bind_some ev3
  obtain ⟨p, xs, hA, hs, hH, hr⟩ := ok.owned e1
  refine ⟨.ref p, hs, .inl ⟨rfl, xs, .inl (.inl hH)⟩, ⟨O, H0, A, ρ, r1, ok, e2, fun v0 H1 s1 h1 => ⟨O, H0, A, ρ, r, ok.same s1, e3, fun v H2 s2 h2 => ?_⟩⟩⟩
  have hv0 := rpB_of ok s1 h1
  obtain ⟨fl, d⟩ := r1
  cases d <;> try cases ev4
  rename_i j
  have ev4 : (if decide (0 ≤ j) && decide (j < 1000000000) && lenOk (ds.length + 1) then some (Out.nx (ρ.set i (some (true, .list (ds.take j.toNat ++ [r.2] ++ ds.drop j.toNat))))) else none) = some out := ev4
  split at ev4
  case isFalse => cases ev4
  rename_i hz
  cases ev4
  rw [Bool.and_eq_true, Bool.and_eq_true] at hz
  obtain ⟨⟨z1, z2⟩, z3⟩ := hz
  have z1 := of_decide_eq_true z1
  have z2 := of_decide_eq_true z2
  have z3 := lenOk_le z3
  have := hv0.int
  subst this
  have hr2 := (hr.same s1).same s2
  refine ⟨p, xs, j, v, rfl, rfl, s2 _ _ (s1 _ _ hH), ?_, z1, by omega, ?_⟩
  · have l := hr.length
    omega
  · have ok2 := (ok.same s1).same s2
    exact q A σ _ (ok2.upd hA hs (((hr2.take _).append (.one ((ok.same s1).down s2 h2.toR))).append (hr2.drop _))) ((Stp.same (s1.trans s2)).trans (Stp.upd hA))
theorem s_put (gd : Good c k sc X) {x : Str} {px p pos : Pos} {a e : Expr} {i : Nat} {z y : E} (hi : c.N[i]? = some x) (hv : vis sc x) (hd : (x == ("__debug__" : Str)) = false) (hcd : (x == ("__classdict__" : Str)) = false) (ha : Both X a z) (he : Both X e y) (na : noSlice a = true) (ne : noComp e = true) :
    PS X (.Assign [.Subscript (.Name x px) a p] e pos) (tS X.K n (.put i z y)) := by
  have hrel : ∀ v, assign (.Subscript (.Name x px) a p) X.env v = (do
      let ov ← holding [v] (eval (.Name x px) X.env)
      let iv ← holding [v, ov] (eval a X.env)
      standAt p
      holding [v, ov, iv] (setItem ov iv v)
      release [v, ov, iv] []) := by
    intro v
    cases a <;> first | rfl | cases na
  refine PS.imp (ps_asg (he.1 false) (pg_sub (pe_var (i := i) (by rw [gd.hN]; exact hi) (gd.vis hv) hd hcd) (ha.1 true) set_list hrel) (by cases e <;> first | rfl | cases ne) (by cases e <;> rfl) rfl) fun D σ H ⟨O, H0, A, ρ, out, ok, ev, q⟩ => ?_
  simp only [evS] at ev
  obtain ⟨r, e1, ev2⟩ := bind_some ev
  obtain ⟨ds, e2, ev3⟩ := bind_some ev2
  obtain ⟨r1, e3, ev4⟩ := bind_some ev3
  obtain ⟨b, xs, hA, hs, hH, hr⟩ := ok.owned e2
  refine ⟨O, H0, A, ρ, r, ok, e1, fun v H1 s1 h1 => ⟨.ref b, hs, ⟨O, H0, A, ρ, r1, ok.same s1, e3, fun v1 H2 s2 h2 => ?_⟩⟩⟩
  have hv1 := rpB_of (ok.same s1) s2 h2
  obtain ⟨fl, d⟩ := r1
  cases d <;> try cases ev4
  rename_i j
  have ev4 : ((putD ds j r.2).map fun ds' => Out.nx (ρ.set i (some (true, .list ds')))) = some out := ev4
  obtain ⟨ds', e5, e6⟩ := map_some ev4
  subst e6
  unfold putD at e5
  obtain ⟨m, e6, e7⟩ := map_some e5
  subst e7
  have := hv1.int
  subst this
  have hr2 := (hr.same s1).same s2
  refine ⟨b, xs, j, m, rfl, rfl, s2 _ _ (s1 _ _ hH), by rw [hr.length]; exact e6, ?_⟩
  have ok2 := (ok.same s1).same s2
  exact q A σ _ (ok2.upd hA hs (RpA.set ((ok.down s1 h1.toR).same s2) m hr2)) ((Stp.same (s1.trans s2)).trans (Stp.upd hA))
theorem s_pop (gd : Good c k sc X) {x : Str} {px apos cpos pos : Pos} {tg : Expr} {g : G} {i : Nat} (hg : CG c sc tg g) (hi : c.N[i]? = some x) (hv : vis sc x) (hd : (x == ("__debug__" : Str)) = false) (hcd : (x == ("__classdict__" : Str)) = false) (hl : (apos.endLine == cpos.line) = true) :
    PS X (.Assign [tg] (.Call (.Attribute (.Name x px) "pop" apos) [] [] cpos) pos) (tS X.K n (.pop g i)) := by
  have h0 : (assignEach [tg] X.env).map (·.2) = [assign tg X.env] := by rw [assignEach_cons (noStarG hg)]; rfl
  refine PS.imp (ps_asg (pe_bm0 PySem.F.plainAttrs_list PySem.F.slot_list_pop PySem.F.type_list_pop mt_pop (pe_var (i := i) (by rw [gd.hN]; exact hi) (gd.vis hv) hd hcd) rfl hl) (soundG gd hg) (by cases hg <;> rfl) (by cases hg <;> rfl) h0) fun D σ H ⟨O, H0, A, ρ, out, ok, ev, q⟩ => ?_
  simp only [evS] at ev
  obtain ⟨ds, e1, ev2⟩ := bind_some ev
  obtain ⟨a, xs, hA, hs, hH, hr⟩ := ok.owned e1
  split at ev2
  · cases ev2
  · rename_i d e2
    obtain ⟨ρ', e3, e4⟩ := map_some ev2
    subst e4
    rw [List.getLast?_eq_getElem?] at e2
    obtain ⟨v, hv, hrv⟩ := hr.get e2
    refine ⟨.ref a, hs, .inl ⟨rfl, xs, .inl (.inl hH)⟩, a, xs, v, rfl, rfl, hH, by rw [hr.length]; exact hv, ?_⟩
    have ok1 := ok.upd hA hs hr.dropLast
    have hv1 : Rp X.K (L2.upd H a (.lst xs.dropLast)) (Ow O A) v d := Rp.keep (Stp.upd hA).1 (fun _ z => .inl z) _ _ hrv
    exact ⟨O, H0, A, _, ρ', d, ok1, hv1, e3, fun σ' ok' _ => q A σ' _ ok' (Stp.upd hA)⟩
/-- return -/
theorem s_ret (gd : Good c k sc X) {e : Expr} {pos : Pos} {x : E} (hc : CE c sc e x) (he : Both X e x) : PS X (.Return (some e) pos) (tS X.K n (.ret x)) := by
  have gen : (∀ i, x ≠ .v i) → PS X (.Return (some e) pos) (tS X.K n (.ret x)) := fun hx => by
    refine PS.imp (ps_ret (he.1 false)) fun D σ H ⟨O, H0, A, ρ, out, ok, ev, q⟩ => ?_
    have ev' : (evE x false ρ).map Out.rt = some out := by
      simp only [evS] at ev
      cases x <;> first | exact ev | exact absurd rfl (hx _)
    obtain ⟨r, e1, e2⟩ := map_some ev'
    subst e2
    exact ⟨O, H0, A, ρ, r, ok, e1, fun v H1 s1 h1 => q v H1 (ok.grow.trans s1) (RpR.up ok.grow (h1.toR.fewer fun a z => .inl z))⟩
  cases hc
  case name =>
    rename_i y py i h1 h3 h4 h2
    refine PS.imp (ps_ret (pe_var (i := i) (by rw [gd.hN]; exact h1) (gd.vis h2) h3 h4)) fun D σ H ⟨O, H0, A, ρ, out, ok, ev, q⟩ => ?_
    simp only [evS] at ev
    obtain ⟨r, e1, e2⟩ := map_some ev
    subst e2
    have e1 : (match ρ[i]? with | some (some r) => some r | _ => none) = some r := e1
    split at e1
    · rename_i r' e3
      cases e1
      obtain ⟨v, e4, h⟩ := ok.val i _ e3
      refine ⟨v, e4, q v H ok.grow ?_⟩
      obtain ⟨fl, d⟩ := r
      cases fl with
      | false => exact Rp.less h fun a z => .inl z
      | true =>
        obtain ⟨a, xs, ds, q1, q2, q3, q4, h⟩ := h
        exact ⟨a, xs, ds, q2, q3, q4, ok.new i a q1, h.less fun b z => z.elim .inl fun z => .inr ⟨i, by rw [z]; exact q1⟩⟩
    · cases e1
  case and h => cases h; exact gen fun i => fun z => nomatch z
  case or h => cases h; exact gen fun i => fun z => nomatch z
  all_goals exact gen fun i => fun z => nomatch z
theorem s_retN {pos : Pos} : PS X (.Return none pos) (tS X.K n .retN) := by
  refine PS.imp ps_retN fun D σ H ⟨O, H0, A, ρ, out, ok, ev, q⟩ => ?_
  simp only [evS] at ev
  cases ev
  exact q .non H ok.grow .non
/-- blocks -/
theorem ss_nil : PSs X [] (tSs X.K n .nil) := by
  refine PSs.imp pss_nil fun D σ H ⟨O, H0, A, ρ, out, ok, ev, q⟩ => ?_
  simp only [evSs] at ev
  cases ev
  exact q A σ H ok Stp.refl
theorem ss_cons {st : Stmt} {sts : List Stmt} {s : S} {ss : Ss} (h1 : PS X st (tS X.K n s)) (h2 : PSs X sts (tSs X.K n ss)) : PSs X (st :: sts) (tSs X.K n (.cons s ss)) := by
  refine PSs.imp (pss_cons h1 h2) fun D σ H ⟨O, H0, A, ρ, out, ok, ev, q⟩ => ?_
  simp only [evSs] at ev
  split at ev
  · rename_i ρ2 e
    exact ⟨O, H0, A, ρ, _, ok, e, fun A' σ' H' ok' st => ⟨O, H0, A', ρ2, out, ok', ev, q.later st⟩⟩
  · rename_i hne
    refine ⟨O, H0, A, ρ, out, ok, ev, ?_⟩
    cases out with
    | nx ρ' => exact absurd ev (hne ρ')
    | bk ρ' => exact q
    | ct ρ' => exact q
    | rt r => exact q
theorem ss_share {sts : List Stmt} {i : Nat} {ss : Ss} (h2 : PSs X sts (tSs X.K n ss)) : PSs X sts (tSs X.K n (.cons (.share i) ss)) := by
  refine PSs.imp h2 fun D σ H ⟨O, H0, A, ρ, out, ok, ev, q⟩ => ?_
  simp only [evSs, evS] at ev
  cases e : ρ[i]? with
  | none =>
    rw [e] at ev
    exact ⟨O, H0, A, ρ, out, ok, ev, q⟩
  | some o =>
    rw [e] at ev
    match o, e, ev with
    | none, e, ev => exact ⟨O, H0, A, ρ, out, ok, ev, q⟩
    | some (false, d), e, ev => exact ⟨O, H0, A, ρ, out, ok, ev, q⟩
    | some (true, d), e, ev =>
      refine ⟨O, H0, _, _, out, ok.share e, ev, q.later ⟨fun _ _ e _ => e, fun x z => ?_⟩⟩
      rcases z with z | ⟨j, z⟩
      · exact .inl (.inl z)
      · by_cases hj : j = i
        · simp only [hj, if_true] at z; cases z
        · simp only [hj, if_false] at z
          exact .inl (.inr ⟨j, z⟩)
theorem s_if {t : Expr} {a b : List Stmt} {pos : Pos} {z : E} {xa xb : Ss} (ht : Both X t z) (ha : PSs X a (tSs X.K n xa)) (hb : PSs X b (tSs X.K n xb)) : PS X (.If t a b pos) (tS X.K n (.ite z xa xb)) := by
  refine PS.imp (ps_if ht.2 ha hb) fun D σ H ⟨O, H0, A, ρ, out, ok, ev, q⟩ => ?_
  simp only [evS] at ev
  obtain ⟨kk, e1, ev2⟩ := bind_some ev
  refine ⟨O, H0, A, ρ, kk, ok, e1, fun H1 s1 => ?_⟩
  cases kk with
  | true => exact ⟨O, H0, A, ρ, out, ok.same s1, ev2, q.later (Stp.same s1)⟩
  | false => exact ⟨O, H0, A, ρ, out, ok.same s1, ev2, q.later (Stp.same s1)⟩
theorem s_for (gd : Good c k sc X) {tg iter : Expr} {body : List Stmt} {pos : Pos} {g : G} {it : I} {b : Ss} (hg : CG c sc tg g) (hi : ∀ b, PI X tg iter (tI X.K it b)) (hs : noSet iter = true) (hb : PSs X body (tSs X.K n b)) : PS X (.For tg iter body [] pos) (tS X.K n (.for_ g it b)) := by
  refine PS.imp (ps_for gd.pass gd.calm (hi false) (soundG gd hg) hb (noset_of hs X.env)) fun D σ H ⟨O, H0, A, ρ, out, ok, ev, q⟩ => ?_
  simp only [evS] at ev
  obtain ⟨ds, e1, ev2⟩ := bind_some ev
  generalize hF : (fun ρ => evSs n b ρ) = F at ev2
  refine ⟨O, H0, A, ρ, ds, ok, e1, fun J H1 s1 _ wk => ?_⟩
  have st0 : Stp O A H A H1 := Stp.same s1
  refine ⟨fun i m σ' H' => m = ds.length - i ∧ i ≤ ds.length ∧ ∃ A' ρ', Ok X.K O H0 A' H' σ' ρ' ∧ Stp O A H1 A' H' ∧ forGo g F (ds.drop i) ρ' = some out, ⟨ds.length, rfl, Nat.zero_le _, A, ρ, ok.same s1, Stp.refl, ev2⟩, ?_⟩
  rintro i m σ' H' ⟨rfl, hil, A', ρ', ok', st, ef⟩
  have hk : KpOf false H1 O (Ow O A) H' := fun a o e n => st.1 a o e n
  by_cases hlt : i < ds.length
  · have hdr : ds.drop i = ds[i] :: ds.drop (i + 1) := List.drop_eq_getElem_cons hlt
    rw [hdr] at ef
    obtain ⟨go, yld⟩ := (wk H' hk i).1 _ (List.getElem?_eq_getElem hlt)
    refine .inr ⟨go, fun σ' H' => ∃ A' ρ', Ok X.K O H0 A' H' σ' ρ' ∧ Stp O A H1 A' H' ∧ forGo g F (ds.drop (i + 1)) ρ' = some out, fun σ' H' h' => ⟨ds.length - (i + 1), by omega, rfl, hlt, h'⟩, fun v0 H2 hy => ?_⟩
    obtain ⟨e6, hx⟩ := yld v0 H2 hy
    subst e6
    have hx' : Rp X.K H2 (Ow O A') v0 ds[i] := Rp.keep st.1 st.2 _ _ hx
    unfold forGo at ef
    split at ef
    · cases ef
    · rename_i ρ1 ea
      refine ⟨O, H0, A', ρ', ρ1, ds[i], ok', hx', ea, fun σ2 ok2 _ => ?_⟩
      have fin : ∀ {out2 : Out}, F ρ1 = some out2 → Post X.K O H0 A' H2 { D with nx := fun σ' H' => ∃ A' ρ', Ok X.K O H0 A' H' σ' ρ' ∧ Stp O A H1 A' H' ∧ forGo g F (ds.drop (i + 1)) ρ' = some out, ct := fun σ' H' => ∃ A' ρ', Ok X.K O H0 A' H' σ' ρ' ∧ Stp O A H1 A' H' ∧ forGo g F (ds.drop (i + 1)) ρ' = some out, bk := D.nx } out2 →
          tSs X.K n b { D with nx := fun σ' H' => ∃ A' ρ', Ok X.K O H0 A' H' σ' ρ' ∧ Stp O A H1 A' H' ∧ forGo g F (ds.drop (i + 1)) ρ' = some out, ct := fun σ' H' => ∃ A' ρ', Ok X.K O H0 A' H' σ' ρ' ∧ Stp O A H1 A' H' ∧ forGo g F (ds.drop (i + 1)) ρ' = some out, bk := D.nx } σ2 H2 :=
        fun {out2} e p => ⟨O, H0, A', ρ1, out2, ok2, by rw [← hF] at e; exact e, p⟩
      split at ef
      · rename_i ρ2 eb
        exact fin eb fun A2 σ3 H3 ok3 st3 => ⟨A2, ρ2, ok3, st.trans st3, ef⟩
      · rename_i ρ2 eb
        exact fin eb fun A2 σ3 H3 ok3 st3 => ⟨A2, ρ2, ok3, st.trans st3, ef⟩
      · rename_i ρ2 eb
        cases ef
        exact fin eb fun A2 σ3 H3 ok3 st3 => q A2 σ3 H3 ok3 (st0.trans (st.trans st3))
      · rename_i r eb
        cases ef
        exact fin eb q
      · cases ef
  · have hi' : i = ds.length := by omega
    subst hi'
    rw [List.drop_length] at ef
    cases ef
    exact .inl ⟨(wk H' hk _).2 (Nat.le_refl _), q A' σ' H' ok' (st0.trans st)⟩
theorem s_while (gd : Good c k sc X) {t : Expr} {body : List Stmt} {pos : Pos} {z : E} {b : Ss} (ht : Both X t z) (hb : PSs X body (tSs X.K n b)) : PS X (.While t body [] pos) (tS X.K n (.while_ z b)) := by
  refine PS.imp (ps_while gd.pass ht.2 hb) fun D σ H ⟨O, H0, A, ρ, out, ok, ev, q⟩ => ?_
  simp only [evS] at ev
  generalize hF : (fun ρ => evSs n b ρ) = F at ev
  refine ⟨fun m σ' H' => ∃ A' ρ', Ok X.K O H0 A' H' σ' ρ' ∧ Stp O A H A' H' ∧ whileGo (fun ρ => evT z ρ) F m ρ' = some out, ⟨n, A, ρ, ok, Stp.refl, ev⟩, ?_⟩
  rintro m σ' H' ⟨A', ρ', ok', st, ef⟩
  cases m with
  | zero => cases ef
  | succ m =>
    unfold whileGo at ef
    split at ef
    · cases ef
    · rename_i ec
      cases ef
      exact ⟨O, H0, A', ρ', false, ok', ec, fun H1 s1 => q A' σ' H1 (ok'.same s1) (st.trans (Stp.same s1))⟩
    · rename_i ec
      refine ⟨O, H0, A', ρ', true, ok', ec, fun H1 s1 => ?_⟩
      refine ⟨fun σ2 H2 => ∃ A2 ρ2, Ok X.K O H0 A2 H2 σ2 ρ2 ∧ Stp O A H A2 H2 ∧ whileGo (fun ρ => evT z ρ) F m ρ2 = some out, fun σ2 H2 h => ⟨m, Nat.lt_succ_self m, h⟩, ?_⟩
      have ok1 := ok'.same s1
      have st1 := st.trans (Stp.same s1)
      have fin : ∀ {out2 : Out}, F ρ' = some out2 → Post X.K O H0 A' H1 { D with nx := fun σ2 H2 => ∃ A2 ρ2, Ok X.K O H0 A2 H2 σ2 ρ2 ∧ Stp O A H A2 H2 ∧ whileGo (fun ρ => evT z ρ) F m ρ2 = some out, ct := fun σ2 H2 => ∃ A2 ρ2, Ok X.K O H0 A2 H2 σ2 ρ2 ∧ Stp O A H A2 H2 ∧ whileGo (fun ρ => evT z ρ) F m ρ2 = some out, bk := D.nx } out2 →
          tSs X.K n b { D with nx := fun σ2 H2 => ∃ A2 ρ2, Ok X.K O H0 A2 H2 σ2 ρ2 ∧ Stp O A H A2 H2 ∧ whileGo (fun ρ => evT z ρ) F m ρ2 = some out, ct := fun σ2 H2 => ∃ A2 ρ2, Ok X.K O H0 A2 H2 σ2 ρ2 ∧ Stp O A H A2 H2 ∧ whileGo (fun ρ => evT z ρ) F m ρ2 = some out, bk := D.nx } σ' H1 :=
        fun {out2} e p => ⟨O, H0, A', ρ', out2, ok1, by rw [← hF] at e; exact e, p⟩
      split at ef
      · rename_i ρ2 eb
        exact fin eb fun A2 σ3 H3 ok3 st3 => ⟨A2, ρ2, ok3, st1.trans st3, ef⟩
      · rename_i ρ2 eb
        exact fin eb fun A2 σ3 H3 ok3 st3 => ⟨A2, ρ2, ok3, st1.trans st3, ef⟩
      · rename_i ρ2 eb
        cases ef
        exact fin eb fun A2 σ3 H3 ok3 st3 => q A2 σ3 H3 ok3 (st1.trans st3)
      · rename_i r eb
        cases ef
        exact fin eb q
      · cases ef
end
section
variable {c : Cfg} {k n : Nat} {sc : Sc} {X : Cx}
theorem s_anyLc (gd : Good c k sc X) {y : Str} {py pos spos : Pos} {elt : Expr} {gs : List Comprehension} {scope : Scope} {i : Nat} {x : E} (hi : c.N[i]? = some y) (hy : sc.lookup y = some .local) (hc : CE c sc (.ListComp elt gs scope pos) x) (hs : yesSwap sc (.Name y py) (.ListComp elt gs scope pos) = true)
    {s : S} (fin : ∀ (D : Ends) (σ : L2.St) (H : Hp), tS X.K n s D σ H → tE X.K x false σ H fun v H1 => D.nx (σ.set i (some v)) H1) :
    PS X (.Assign [.Name y py] (.ListComp elt gs scope pos) spos) (tS X.K n s) := by
  have hsw := yesSwap_ok gd hs spos.line
  have hi' : X.N[i]? = some y := by rw [gd.hN]; exact hi
  have nd' : X.N.Nodup := by rw [gd.hN]; exact gd.nd
  cases hc with
  | comp h1 h2 h3 h4 hb hg hns =>
    exact PS.imp (ps_setLc (wi := tI X.K _ true) (g := tG X.K _) (tt := tC X.K _) (te := tE X.K _ false) gd.calm nd' hi' (gd.lc y hy) hsw (soundI h1 gd true) (blk_ok gd hb) (fun s H C cl fp => soundG (good_blk gd hb s H C cl fp) h2) (fun s H C cl fp => soundC h3 (good_blk gd hb s H C cl fp)) (fun s H C cl fp => (soundE h4 (good_blk gd hb s H C cl fp)).1 false)
      (noset_of hns X.env)) fun D σ H q => rd_comp hg false σ H _ (fin D σ H q)
  | comp2 h1 h2 h3 h4 h5 h6 h7 hb hg hg1 ho hns hns1 =>
    exact PS.imp (ps_setLc2 (wi := tI X.K _ true) (g := tG X.K _) (tt := tC X.K _) (wi1 := tI X.K _ true) (g1 := tG X.K _) (tt1 := tC X.K _) (te := tE X.K _ false) gd.calm nd' hi' (gd.lc y hy) hsw (soundI h1 gd true) (blk_ok gd hb) (mem_of_all ho)
      (fun s H C cl fp => soundG (good_blk gd hb s H C cl fp) h2) (fun s H C cl fp => soundC h3 (good_blk gd hb s H C cl fp)) (fun s H C cl fp => soundI h4 (good_blk gd hb s H C cl fp) true) (fun s H C cl fp => soundG (good_blk gd hb s H C cl fp) h5) (fun s H C cl fp => soundC h6 (good_blk gd hb s H C cl fp)) (fun s H C cl fp => (soundE h7 (good_blk gd hb s H C cl fp)).1 false)
      (noset_of hns X.env) (fun env => noset_of hns1 env)) fun D σ H q => rd_comp2 hg hg1 false σ H _ (fin D σ H q)
theorem fin_asg {K : PySem.W.Frag} {i : Nat} {x : E} (D : Ends) (σ : L2.St) (H : Hp) (h : tS K n (.asg (.nm i) x) D σ H) : tE K x false σ H fun v H1 => D.nx (σ.set i (some v)) H1 := by
  obtain ⟨O, H0, A, ρ, out, ok, ev, q⟩ := h
  simp only [evS, asgR] at ev
  obtain ⟨r, e1, ev2⟩ := bind_some ev
  cases ev2
  refine ⟨O, H0, A, ρ, r, ok, e1, fun v H1 s1 h1 => ?_⟩
  obtain ⟨A', ok', st⟩ := ok.store s1 h1.toR
  exact q A' _ H1 ok' st
theorem fin_asgs {K : PySem.W.Frag} {i : Nat} {x : E} (D : Ends) (σ : L2.St) (H : Hp) (h : tS K n (.asgs i x) D σ H) : tE K x false σ H fun v H1 => D.nx (σ.set i (some v)) H1 := by
  obtain ⟨O, H0, A, ρ, out, ok, ev, q⟩ := h
  simp only [evS] at ev
  obtain ⟨r, e1, ev2⟩ := map_some ev
  cases ev2
  exact ⟨O, H0, A, ρ, r, ok, e1, fun v H1 s1 h1 => q A _ H1 ((ok.same s1).set (ok.down s1 h1.toR)) (Stp.same s1)⟩
theorem s_asgs (gd : Good c k sc X) {y : Str} {py pos : Pos} {e : Expr} {i : Nat} {x : E} (hi : c.N[i]? = some y) (hl : loc sc y) (he : Both X e x) (h1 : noSwap sc (.Name y py) e = true) : PS X (.Assign [.Name y py] e pos) (tS X.K n (.asgs i x)) :=
  PS.imp (ps_asg (he.1 false) (pg_name (i := i) (by rw [gd.hN]; exact gd.nd) (by rw [gd.hN]; exact hi) (gd.loc hl).1 (gd.loc hl).2) (noSwap_ok gd (.nm hi hl) h1 _) (by cases e <;> rfl) rfl) fun D σ H q => fin_asgs D σ H q
mutual
theorem soundS (gd : Good c k sc X) : ∀ {st : Stmt} {s : S}, CS c sc st s → PS X st (tS X.K n s)
  | _, _, .asg hg he h1 h2 => s_asg gd hg (soundE he gd) h1 h2
  | _, _, .asgLc h1 h2 h3 h4 => s_anyLc gd h1 h2 h3 h4 fin_asg
  | _, _, .asgs h1 h2 h3 h4 => s_asgs gd h1 h2 (soundE h3 gd) h4
  | _, _, .asgsLc h1 h2 h3 h4 => s_anyLc gd h1 h2 h3 h4 fin_asgs
  | _, _, .par h1 h2 h3 h4 h5 h6 ha hb na nb hs => s_par gd h1 h2 h3 h4 h5 h6 (soundE ha gd) (soundE hb gd) na nb hs
  | _, _, .par3 h1 h2 h3 h4 h5 h6 h7 h8 h9 h10 h11 ha hb hd na nb nd hs => s_par3 gd h1 h2 h3 h4 h5 h6 h7 h8 h9 h10 h11 (soundE ha gd) (soundE hb gd) (soundE hd gd) na nb nd hs
  | _, _, .app h1 h2 h3 h4 he ne hl => s_app gd h1 h2 h3 h4 (soundE he gd) ne hl
  | _, _, .ext h1 h2 h3 h4 he ne hl => s_ext gd h1 h2 h3 h4 (soundE he gd) ne hl
  | _, _, .ins h1 h2 h3 h4 ha he na ne hl => s_ins gd h1 h2 h3 h4 (soundE ha gd) (soundE he gd) na ne hl
  | _, _, .put h1 h2 h3 h4 ha he na ne => s_put gd h1 h2 h3 h4 (soundE ha gd) (soundE he gd) na ne
  | _, _, .pop hg h1 h2 h3 h4 hl => s_pop gd hg h1 h2 h3 h4 hl
  | _, _, .ret he => s_ret gd he (soundE he gd)
  | _, _, .retN => s_retN
  | _, _, .ite ht ha hb => s_if (soundE ht gd) (soundSs gd ha) (soundSs gd hb)
  | _, _, .for_ hg hi hs hb => s_for gd hg (fun b => soundI hi gd b) hs (soundSs gd hb)
  | _, _, .while_ ht hb => s_while gd (soundE ht gd) (soundSs gd hb)
  | _, _, .never => PS.imp ps_never fun D σ H ⟨O, H0, A, ρ, out, ok, ev, q⟩ => by
      simp only [evS] at ev
      cases ev
theorem soundSs (gd : Good c k sc X) : ∀ {sts : List Stmt} {ss : Ss}, CSs c sc sts ss → PSs X sts (tSs X.K n ss)
  | _, _, .nil => ss_nil
  | _, _, .cons h t => ss_cons (soundS gd h) (soundSs gd t)
  | _, _, .share t => ss_share (soundSs gd t)
end
end
end PV

set_option Elab.async false
set_option linter.all false
set_option maxRecDepth 100000
set_option maxHeartbeats 4000000
/-! PV12: turning the text into E and S. -/
namespace PV
open PySem PySem.Spec PyProof.Rows L2

def idxOf (x : Str) : List Str → Option Nat
  | [] => none
  | y :: ys => if x == y then some 0 else (idxOf x ys).map (· + 1)
theorem idxOf_ok {x : Str} : ∀ {N : List Str} {i : Nat}, idxOf x N = some i → N[i]? = some x
  | [], i, h => by cases h
  | y :: ys, i, h => by
    unfold idxOf at h
    split at h
    · rename_i e
      cases h
      rw [beq_iff_eq.mp e]; rfl
    · obtain ⟨j, e3, e2⟩ := map_some h
      subst e2
      exact idxOf_ok (N := ys) e3
def visB (sc : Sc) (x : Str) : Bool := match sc.lookup x with
  | some .local => true
  | some .cell => true
  | some .free => true
  | _ => false
def locB (sc : Sc) (x : Str) : Bool := match sc.lookup x with
  | some .local => true
  | some .cell => true
  | _ => false
def localB (sc : Sc) (x : Str) : Bool := match sc.lookup x with
  | some .local => true
  | _ => false
def gliB (sc : Sc) (x : Str) : Bool := match sc.lookup x with
  | some .globalImplicit => true
  | _ => false
theorem visB_ok {sc : Sc} {x : Str} (h : visB sc x = true) : vis sc x := by
  unfold visB at h
  split at h
  · exact .inl (by assumption)
  · exact .inr (.inl (by assumption))
  · exact .inr (.inr (by assumption))
  · cases h
theorem locB_ok {sc : Sc} {x : Str} (h : locB sc x = true) : loc sc x := by
  unfold locB at h
  split at h
  · exact .inl (by assumption)
  · exact .inr (by assumption)
  · cases h
theorem localB_ok {sc : Sc} {x : Str} (h : localB sc x = true) : sc.lookup x = some .local := by
  unfold localB at h
  split at h
  · assumption
  · cases h
theorem gliB_ok {sc : Sc} {x : Str} (h : gliB sc x = true) : gli sc x := by
  unfold gliB at h
  split at h
  · assumption
  · cases h
def okName (x : Str) : Bool := !(x == ("__debug__" : Str)) && !(x == ("__classdict__" : Str))
theorem okName_ok {x : Str} (h : okName x = true) : (x == ("__debug__" : Str)) = false ∧ (x == ("__classdict__" : Str)) = false := by
  unfold okName at h
  rw [Bool.and_eq_true, Bool.not_eq_true', Bool.not_eq_true'] at h
  exact h
def opInv : Operator → Option BOp
  | .Add => some .add | .Sub => some .sub | .Mult => some .mul | .FloorDiv => some .fdiv | .Mod => some .mod | .Pow => some .pow | .LShift => some .shl | .RShift => some .shr | .BitAnd => some .band | .BitOr => some .bor
  | _ => none
theorem opInv_ok {op : Operator} {o : BOp} (h : opInv op = some o) : op = opOf o := by
  cases op <;> cases h <;> rfl
def copInv : CmpOp → Option COp
  | .Eq => some .eq | .NotEq => some .ne | .Lt => some .lt | .LtE => some .le | .Gt => some .gt | .GtE => some .ge | .Is => some .isn | .IsNot => some .notn | .In => some .inn | .NotIn => some .notin
theorem copInv_ok {op : CmpOp} {o : COp} (h : copInv op = some o) : op = copOf o := by
  cases op <;> cases h <;> rfl
def allBI : List BI := [.len, .abs, .int, .min, .max, .sum, .sorted, .list, .tuple, .repr]
def biOf (f : Str) : List BI → Option BI
  | [] => none
  | b :: bs => match biName b with
    | some g => if f == g then some b else biOf f bs
    | none => biOf f bs
theorem biOf_ok {f : Str} {b : BI} : ∀ {l : List BI}, biOf f l = some b → biName b = some f
  | [], h => by cases h
  | a :: l, h => by
    unfold biOf at h
    split at h
    · rename_i g e
      split at h
      · rename_i e2
        cases h
        rw [e, beq_iff_eq.mp e2]
      · exact biOf_ok h
    · exact biOf_ok h
def allIs : List BI := [.isInt, .isBool, .isList, .isTuple, .isStr]
def isOf (f : Str) : List BI → Option BI
  | [] => none
  | b :: bs => match isName b with
    | some g => if f == g then some b else isOf f bs
    | none => isOf f bs
theorem isOf_ok {f : Str} {b : BI} : ∀ {l : List BI}, isOf f l = some b → isName b = some f
  | [], h => by cases h
  | a :: l, h => by
    unfold isOf at h
    split at h
    · rename_i g e
      split at h
      · rename_i e2
        cases h
        rw [e, beq_iff_eq.mp e2]
      · exact isOf_ok h
    · exact isOf_ok h
/-- a condition, then the rest -/
def chk {α : Type} (b : Bool) (x : Option α) : Option α := match b with
  | true => x
  | false => none
theorem chk_some {α : Type} {b : Bool} {x : Option α} {r : α} (h : chk b x = some r) : b = true ∧ x = some r := by
  cases b with
  | true => exact ⟨rfl, h⟩
  | false => cases h
def compG (c : Cfg) (sc : Sc) : Nat → Expr → Option G
  | 0, _ => none
  | n + 1, e => match e with
    | .Name x _ => chk (locB sc x) ((idxOf x c.N).map .nm)
    | .Tuple [a, b] _ _ => (compG c sc n a).bind fun x => (compG c sc n b).map fun y => .two x y
    | .Tuple [a, b, d] _ _ => (compG c sc n a).bind fun x => (compG c sc n b).bind fun y => (compG c sc n d).map fun z => .thr x y z
    | .Tuple [a, b, d, e] _ _ => (compG c sc n a).bind fun x => (compG c sc n b).bind fun y => (compG c sc n d).bind fun z => (compG c sc n e).map fun u => .fou x y z u
    | _ => none
theorem compG_ok {c : Cfg} {sc : Sc} : ∀ {n : Nat} {e : Expr} {g : G}, compG c sc n e = some g → CG c sc e g
  | 0, e, g, h => by cases h
  | n + 1, e, g, h => by
    unfold compG at h
    split at h
    · obtain ⟨h1, h2⟩ := chk_some h
      obtain ⟨i, h3, h4⟩ := map_some h2
      subst h4
      exact .nm (idxOf_ok h3) (locB_ok h1)
    · obtain ⟨x, h1, h2⟩ := bind_some h
      obtain ⟨y, h3, h4⟩ := map_some h2
      subst h4
      exact .two (compG_ok h1) (compG_ok h3)
    · obtain ⟨x, h1, h2⟩ := bind_some h
      obtain ⟨y, h3, h4⟩ := bind_some h2
      obtain ⟨z, h5, h6⟩ := map_some h4
      subst h6
      exact .thr (compG_ok h1) (compG_ok h3) (compG_ok h5)
    · obtain ⟨x, h1, h2⟩ := bind_some h
      obtain ⟨y, h3, h4⟩ := bind_some h2
      obtain ⟨z, h5, h6⟩ := bind_some h4
      obtain ⟨u, h7, h8⟩ := map_some h6
      subst h8
      exact .fou (compG_ok h1) (compG_ok h3) (compG_ok h5) (compG_ok h7)
    · cases h
def ownOf (N : List Str) (names : List (Str × NameKind)) : List (Str × Nat) := names.filterMap fun (x, k) => match k with
  | .local => (idxOf x N).map fun i => (x, i)
  | .cell => (idxOf x N).map fun i => (x, i)
  | _ => none
def callOf (c : Cfg) (sc : Sc) (f : Str) (e : Expr) (es : List Expr) (xs : Option Es) (x1 : Option E) : Option E :=
  match c.tab f with
  | some F => xs.map fun xs => .call F xs
  | none => match biOf f allBI with
    | some b => xs.map fun xs => .bi b xs
    | none => chk (f == ("isinstance" : Str)) (match es with
      | [.Name T _] => chk (gliB sc T && noStar e) ((isOf T allIs).bind fun b => x1.map fun x => .bi b (.cons x .nil))
      | _ => none)
/-- sorted(set(e)) -/
def setArg (f : Str) (e : Expr) (es : List Expr) : Option Expr := match e, es with
  | .Call (.Name g _) [e2] [] _, [] => chk (f == ("sorted" : Str) && g == ("set" : Str)) (some e2)
  | _, _ => none
theorem setArg_ok {f : Str} {e e2 : Expr} {es : List Expr} (h : setArg f e es = some e2) : f = "sorted" ∧ es = [] ∧ ∃ p q, e = .Call (.Name "set" p) [e2] [] q := by
  unfold setArg at h
  split at h
  · obtain ⟨h1, h⟩ := chk_some h
    cases h
    rw [Bool.and_eq_true] at h1
    rw [beq_iff_eq.mp h1.1, beq_iff_eq.mp h1.2]
    exact ⟨rfl, rfl, _, _, rfl⟩
  · cases h
/-- list(range(..)) -/
def rngArg (f : Str) (e : Expr) (es : List Expr) : Option (List Expr) := match e, es with
  | .Call (.Name g _) as [] _, [] => chk (f == ("list" : Str) && g == ("range" : Str)) (some as)
  | _, _ => none
theorem rngArg_ok {f : Str} {e : Expr} {es as : List Expr} (h : rngArg f e es = some as) : f = "list" ∧ es = [] ∧ ∃ p q, e = .Call (.Name "range" p) as [] q := by
  unfold rngArg at h
  split at h
  · obtain ⟨h1, h⟩ := chk_some h
    cases h
    rw [Bool.and_eq_true] at h1
    rw [beq_iff_eq.mp h1.1, beq_iff_eq.mp h1.2]
    exact ⟨rfl, rfl, _, _, rfl⟩
  · cases h
mutual
def compE (c : Cfg) : Nat → Sc → Expr → Option E
  | 0, _, _ => none
  | n + 1, sc, e => match e with
    | .Name x _ => chk (okName x) (match visB sc x with
      | true => (idxOf x c.N).map .v
      | false => chk (gliB sc x) ((c.cst x).map .c))
    | .Constant (.int i) _ _ => some (.c (.int i))
    | .Constant (.bool b) _ _ => some (.c (.bool b))
    | .Constant .none _ _ => some (.c .none)
    | .Constant (.str x) _ _ => some (.c (.str x))
    | .BinOp a op b _ => (opInv op).bind fun o => (compE c n sc a).bind fun x => (compE c n sc b).map fun y => .bin o x y
    | .UnaryOp .USub a _ => (compE c n sc a).map fun x => .neg x
    | .UnaryOp .Not a _ => (compE c n sc a).map fun x => .not x
    | .Compare a [op] [b] _ => (copInv op).bind fun o => chk (!behindInMarks op b) ((compE c n sc a).bind fun x => (compE c n sc b).map fun y => .cmp o x y)
    | .Compare a [op, op2] [b, d] _ => (copInv op).bind fun o => (copInv op2).bind fun p => chk (!behindInMarks op2 d) ((compE c n sc a).bind fun x => (compE c n sc b).bind fun y => (compE c n sc d).map fun z => .chain o p x y z)
    | .BoolOp .And (a :: b :: es) _ => compA c n sc (a :: b :: es)
    | .BoolOp .Or (a :: b :: es) _ => compO c n sc (a :: b :: es)
    | .IfExp t a b _ => (compE c n sc t).bind fun z => (compE c n sc a).bind fun x => (compE c n sc b).map fun y => .ite z x y
    | .Tuple es _ _ => (compEs c n sc es).map fun xs => .tup xs
    | .List es _ => (compEs c n sc es).map fun xs => .lst xs
    | .Subscript a (.Slice none none (some (.UnaryOp .USub (.Constant (.int i) _ _) _)) _) _ => chk (decide (i = 1)) ((compE c n sc a).map fun x => .rev x)
    | .Subscript a (.Slice lo hi none _) _ => (compE c n sc a).bind fun x => (compP c n sc lo).bind fun l => (compP c n sc hi).map fun h => .sl x l h
    | .Subscript a b _ => chk (noSlice b) ((compE c n sc a).bind fun x => (compE c n sc b).map fun y => .ix x y)
    | .Call (.Name f _) [] [] _ => chk (gliB sc f && okName f) ((c.tab f).map fun F => .call F .nil)
    | .Call (.Name f _) (e :: es) [] _ => chk (gliB sc f && okName f) (match setArg f e es with
      | some e2 => chk (gliB sc "set" && noStar e2) ((compE c n sc e2).map fun x => .bi .sortedSet (.cons x .nil))
      | none => match rngArg f e es with
        | some [a] => chk (gliB sc "range" && noStar a) ((compE c n sc a).map fun x => .rngl (.cons x .nil))
        | some [a, b] => chk (gliB sc "range" && noStar a && noStar b) ((compE c n sc a).bind fun x => (compE c n sc b).map fun y => .rngl (.cons x (.cons y .nil)))
        | _ => callOf c sc f e es (compEs c n sc (e :: es)) (compE c n sc e))
    | .Call (.Attribute o f apos) [e] [] cpos => chk ((apos.endLine == cpos.line) && notCall o && noStar o && noStar e) ((compE c n sc o).bind fun x => (compE c n sc e).bind fun y => match f == ("index" : Str) with
      | true => some (.bi .index (.cons x (.cons y .nil)))
      | false => chk (f == ("count" : Str)) (some (.bi .count (.cons x (.cons y .nil)))))
    | .ListComp elt [⟨tg, iter, ifs, as⟩] scope _ => chk (decide (as = 0) && noSet iter) ((compI c n sc iter).bind fun it => (compG c scope.names n tg).bind fun g => (compC c n scope.names ifs).bind fun t => (compE c n scope.names elt).bind fun x =>
        chk (blkC c.N ⟨.function, sc, false, false, []⟩ scope (ownOf c.N scope.names) && (gslots g).all (fun i => ((ownOf c.N scope.names).map (·.2)).contains i)) (some (.comp ((ownOf c.N scope.names).map (·.2)) g it t x)))
    | .ListComp elt [⟨tg, iter, ifs, as⟩, ⟨tg1, iter1, ifs1, as1⟩] scope _ => chk (decide (as = 0) && decide (as1 = 0) && noSet iter && noSet iter1) ((compI c n sc iter).bind fun it => (compG c scope.names n tg).bind fun g => (compC c n scope.names ifs).bind fun t =>
        (compI c n scope.names iter1).bind fun it1 => (compG c scope.names n tg1).bind fun g1 => (compC c n scope.names ifs1).bind fun t1 => (compE c n scope.names elt).bind fun x =>
        chk (blkC c.N ⟨.function, sc, false, false, []⟩ scope (ownOf c.N scope.names) && (gslots g).all (fun i => ((ownOf c.N scope.names).map (·.2)).contains i) && (gslots g1).all (fun i => (gslots g1).contains i) && (gslots g1).all (fun i => ((ownOf c.N scope.names).map (·.2)).contains i))
          (some (.comp2 ((ownOf c.N scope.names).map (·.2)) g it t (gslots g1) g1 it1 t1 x)))
    | _ => none
def compA (c : Cfg) : Nat → Sc → List Expr → Option E
  | 0, _, _ => none
  | n + 1, sc, es => match es with
    | [a] => compE c n sc a
    | a :: b :: r => (compE c n sc a).bind fun x => (compA c n sc (b :: r)).map fun y => .and x y
    | [] => none
def compO (c : Cfg) : Nat → Sc → List Expr → Option E
  | 0, _, _ => none
  | n + 1, sc, es => match es with
    | [a] => compE c n sc a
    | a :: b :: r => (compE c n sc a).bind fun x => (compO c n sc (b :: r)).map fun y => .or x y
    | [] => none
def compEs (c : Cfg) : Nat → Sc → List Expr → Option Es
  | 0, _, _ => none
  | n + 1, sc, es => match es with
    | [] => some .nil
    | e :: r => chk (noStar e) ((compE c n sc e).bind fun x => (compEs c n sc r).map fun xs => .cons x xs)
def compP (c : Cfg) : Nat → Sc → Option Expr → Option Oe
  | 0, _, _ => none
  | n + 1, sc, e => match e with
    | none => some .no
    | some e => (compE c n sc e).map .yes
def compC (c : Cfg) : Nat → Sc → List Expr → Option Oe
  | 0, _, _ => none
  | n + 1, sc, e => match e with
    | [] => some .no
    | [e] => (compE c n sc e).map .yes
    | _ => none
def compI (c : Cfg) : Nat → Sc → Expr → Option I
  | 0, _, _ => none
  | n + 1, sc, e => match e with
    | .Call (.Name f _) (a :: es) [] _ => match f == ("range" : Str) && gliB sc f && Nat.ble es.length 2 with
      | true => (compEs c n sc (a :: es)).map .rng
      | false => (compE c n sc e).map .seq
    | _ => (compE c n sc e).map .seq
end
theorem not_true {b : Bool} (h : (!b) = true) : b = false := by simpa using h
theorem str_of_beq {f g : Str} (h : (f == g) = true) : f = g := beq_iff_eq.mp h
mutual
theorem compE_ok {c : Cfg} : ∀ {n : Nat} {sc : Sc} {e : Expr} {x : E}, compE c n sc e = some x → CE c sc e x
  | 0, _, _, _, h => by simp [compE] at h
  | n + 1, sc, e, x, h => by
    unfold compE at h
    split at h
    · obtain ⟨h1, h⟩ := chk_some h
      split at h
      · rename_i hv
        obtain ⟨i, h2, h3⟩ := map_some h
        subst h3
        exact .name (idxOf_ok h2) (visB_ok hv) (okName_ok h1).1 (okName_ok h1).2
      · obtain ⟨h2, h⟩ := chk_some h
        obtain ⟨d, h3, h4⟩ := map_some h
        subst h4
        exact .const (gliB_ok h2) h3 (okName_ok h1).1
    · cases h; exact .int
    · cases h; exact .bool
    · cases h; exact .none
    · cases h; exact .str
    · obtain ⟨o, h1, h⟩ := bind_some h
      obtain ⟨a, h2, h⟩ := bind_some h
      obtain ⟨b, h3, h⟩ := map_some h
      subst h
      rw [opInv_ok h1]
      exact .bin (compE_ok h2) (compE_ok h3)
    · obtain ⟨a, h2, h⟩ := map_some h
      subst h
      exact .neg (compE_ok h2)
    · obtain ⟨a, h2, h⟩ := map_some h
      subst h
      exact .not (compE_ok h2)
    · obtain ⟨o, h1, h⟩ := bind_some h
      obtain ⟨hm, h⟩ := chk_some h
      obtain ⟨a, h2, h⟩ := bind_some h
      obtain ⟨b, h3, h⟩ := map_some h
      subst h
      have hm := not_true hm
      have := copInv_ok h1
      subst this
      exact .cmp (compE_ok h2) (compE_ok h3) hm
    · obtain ⟨o, h1, h⟩ := bind_some h
      obtain ⟨p, h1', h⟩ := bind_some h
      obtain ⟨hm, h⟩ := chk_some h
      obtain ⟨a, h2, h⟩ := bind_some h
      obtain ⟨b, h3, h⟩ := bind_some h
      obtain ⟨d, h4, h⟩ := map_some h
      subst h
      have hm := not_true hm
      have := copInv_ok h1
      subst this
      have := copInv_ok h1'
      subst this
      exact .chain (compE_ok h2) (compE_ok h3) (compE_ok h4) hm
    · exact .and (compA_ok h)
    · exact .or (compO_ok h)
    · obtain ⟨a, h2, h⟩ := bind_some h
      obtain ⟨b, h3, h⟩ := bind_some h
      obtain ⟨d, h4, h⟩ := map_some h
      subst h
      exact .ite (compE_ok h2) (compE_ok h3) (compE_ok h4)
    · obtain ⟨a, h2, h⟩ := map_some h
      subst h
      exact .tup (compEs_ok h2)
    · obtain ⟨a, h2, h⟩ := map_some h
      subst h
      exact .lst (compEs_ok h2)
    · obtain ⟨hi, h⟩ := chk_some h
      have hi := of_decide_eq_true hi
      subst hi
      obtain ⟨a, h2, h⟩ := map_some h
      subst h
      exact .rev (compE_ok h2)
    · obtain ⟨a, h2, h⟩ := bind_some h
      obtain ⟨b, h3, h⟩ := bind_some h
      obtain ⟨d, h4, h⟩ := map_some h
      subst h
      exact .sl (compE_ok h2) (compP_ok h3) (compP_ok h4)
    · obtain ⟨hs, h⟩ := chk_some h
      obtain ⟨a, h2, h⟩ := bind_some h
      obtain ⟨b, h3, h⟩ := map_some h
      subst h
      exact .ix (compE_ok h2) (compE_ok h3) hs
    · obtain ⟨hg, h⟩ := chk_some h
      rw [Bool.and_eq_true] at hg
      obtain ⟨F, h2, h⟩ := map_some h
      subst h
      exact .call0 (gliB_ok hg.1) h2 (okName_ok hg.2).1
    · obtain ⟨hg, h⟩ := chk_some h
      rw [Bool.and_eq_true] at hg
      obtain ⟨hg, hn⟩ := hg
      have hg := gliB_ok hg
      split at h
      · rename_i e2 hs
        obtain ⟨hc, h⟩ := chk_some h
        rw [Bool.and_eq_true] at hc
        obtain ⟨x2, h2, h⟩ := map_some h
        subst h
        obtain ⟨e3, e4, p3, q3, e5⟩ := setArg_ok hs
        subst e3 e4 e5
        exact .sset hg (gliB_ok hc.1) (compE_ok h2) hc.2
      split at h
      · rename_i a hs
        obtain ⟨hc, h⟩ := chk_some h
        rw [Bool.and_eq_true] at hc
        obtain ⟨x2, h2, h⟩ := map_some h
        subst h
        obtain ⟨e3, e4, p3, q3, e5⟩ := rngArg_ok hs
        subst e3 e4 e5
        exact .rngl1 hg (gliB_ok hc.1) (compE_ok h2) hc.2
      · rename_i a b hs
        obtain ⟨hc, h⟩ := chk_some h
        rw [Bool.and_eq_true, Bool.and_eq_true] at hc
        obtain ⟨x2, h2, h⟩ := bind_some h
        obtain ⟨x3, h3, h⟩ := map_some h
        subst h
        obtain ⟨e3, e4, p3, q3, e5⟩ := rngArg_ok hs
        subst e3 e4 e5
        exact .rngl2 hg (gliB_ok hc.1.1) (compE_ok h2) hc.1.2 (compE_ok h3) hc.2
      unfold callOf at h
      split at h
      · rename_i F hF
        obtain ⟨xs, h2, h⟩ := map_some h
        subst h
        exact .call hg hF (okName_ok hn).1 (compEs_ok h2)
      · split at h
        · rename_i b hb
          obtain ⟨xs, h2, h⟩ := map_some h
          subst h
          exact .bi hg (biOf_ok hb) (compEs_ok h2)
        · obtain ⟨hi, k1⟩ := chk_some h
          have hf := str_of_beq hi
          split at k1
          · obtain ⟨hc, k2⟩ := chk_some k1
            rw [Bool.and_eq_true] at hc
            obtain ⟨b, h2, k3⟩ := bind_some k2
            obtain ⟨x, h3, k4⟩ := map_some k3
            subst k4
            subst hf
            exact .is hg (gliB_ok hc.1) (isOf_ok h2) (compE_ok h3) hc.2
          · cases k1
    · obtain ⟨hc, h⟩ := chk_some h
      simp only [Bool.and_eq_true] at hc
      obtain ⟨⟨⟨c2, c3⟩, c4⟩, c5⟩ := hc
      obtain ⟨a, h2, k1⟩ := bind_some h
      obtain ⟨b, h3, k2⟩ := bind_some k1
      split at k2
      · rename_i c1
        cases k2
        have hf := str_of_beq c1
        subst hf
        exact .index (compE_ok h2) (compE_ok h3) c2 c3 c4 c5
      · obtain ⟨c1, k2⟩ := chk_some k2
        cases k2
        have hf := str_of_beq c1
        subst hf
        exact .count (compE_ok h2) (compE_ok h3) c2 c3 c4 c5
    · obtain ⟨hc, h⟩ := chk_some h
      rw [Bool.and_eq_true] at hc
      have e0 := of_decide_eq_true hc.1
      obtain ⟨it, h1, k1⟩ := bind_some h
      obtain ⟨g, h2, k2⟩ := bind_some k1
      obtain ⟨t, h3, k3⟩ := bind_some k2
      obtain ⟨y, h4, k4⟩ := bind_some k3
      obtain ⟨hb, k5⟩ := chk_some k4
      rw [Bool.and_eq_true] at hb
      cases k5
      subst e0
      exact .comp (compI_ok h1) (compG_ok h2) (compC_ok h3) (compE_ok h4) hb.1 hb.2 hc.2
    · obtain ⟨hc, h⟩ := chk_some h
      simp only [Bool.and_eq_true] at hc
      obtain ⟨⟨⟨c1, c2⟩, c3⟩, c4⟩ := hc
      have e0 := of_decide_eq_true c1
      have e1 := of_decide_eq_true c2
      obtain ⟨it, h1, k1⟩ := bind_some h
      obtain ⟨g, h2, k2⟩ := bind_some k1
      obtain ⟨t, h3, k3⟩ := bind_some k2
      obtain ⟨it1, h4, k4⟩ := bind_some k3
      obtain ⟨g1, h5, k5⟩ := bind_some k4
      obtain ⟨t1, h6, k6⟩ := bind_some k5
      obtain ⟨y, h7, k7⟩ := bind_some k6
      obtain ⟨hb, k8⟩ := chk_some k7
      simp only [Bool.and_eq_true] at hb
      obtain ⟨⟨⟨b1, b2⟩, b3⟩, b4⟩ := hb
      cases k8
      subst e0 e1
      exact .comp2 (compI_ok h1) (compG_ok h2) (compC_ok h3) (compI_ok h4) (compG_ok h5) (compC_ok h6) (compE_ok h7) b1 b2 b3 b4 c3 c4
    · cases h
theorem compA_ok {c : Cfg} : ∀ {n : Nat} {sc : Sc} {es : List Expr} {pos : Pos} {x : E}, compA c n sc es = some x → CA c sc es pos x
  | 0, _, _, _, _, h => by simp [compA] at h
  | n + 1, sc, es, pos, x, h => by
    unfold compA at h
    split at h
    · exact .one (compE_ok h)
    · obtain ⟨a, h2, h⟩ := bind_some h
      obtain ⟨b, h3, h⟩ := map_some h
      subst h
      exact .cons (compE_ok h2) (compA_ok h3)
    · cases h
theorem compO_ok {c : Cfg} : ∀ {n : Nat} {sc : Sc} {es : List Expr} {pos : Pos} {x : E}, compO c n sc es = some x → CO c sc es pos x
  | 0, _, _, _, _, h => by simp [compO] at h
  | n + 1, sc, es, pos, x, h => by
    unfold compO at h
    split at h
    · exact .one (compE_ok h)
    · obtain ⟨a, h2, h⟩ := bind_some h
      obtain ⟨b, h3, h⟩ := map_some h
      subst h
      exact .cons (compE_ok h2) (compO_ok h3)
    · cases h
theorem compEs_ok {c : Cfg} : ∀ {n : Nat} {sc : Sc} {es : List Expr} {x : Es}, compEs c n sc es = some x → CEs c sc es x
  | 0, _, _, _, h => by simp [compEs] at h
  | n + 1, sc, es, x, h => by
    unfold compEs at h
    split at h
    · cases h; exact .nil
    · obtain ⟨hs, h⟩ := chk_some h
      obtain ⟨a, h2, h⟩ := bind_some h
      obtain ⟨b, h3, h⟩ := map_some h
      subst h
      exact .cons (compE_ok h2) hs (compEs_ok h3)
theorem compP_ok {c : Cfg} : ∀ {n : Nat} {sc : Sc} {e : Option Expr} {x : Oe}, compP c n sc e = some x → CP c sc e x
  | 0, _, _, _, h => by simp [compP] at h
  | n + 1, sc, e, x, h => by
    unfold compP at h
    split at h
    · cases h; exact .no
    · obtain ⟨a, h2, h⟩ := map_some h
      subst h
      exact .yes (compE_ok h2)
theorem compC_ok {c : Cfg} : ∀ {n : Nat} {sc : Sc} {e : List Expr} {x : Oe}, compC c n sc e = some x → CC c sc e x
  | 0, _, _, _, h => by simp [compC] at h
  | n + 1, sc, e, x, h => by
    unfold compC at h
    split at h
    · cases h; exact .no
    · obtain ⟨a, h2, h⟩ := map_some h
      subst h
      exact .yes (compE_ok h2)
    · cases h
theorem compI_ok {c : Cfg} : ∀ {n : Nat} {sc : Sc} {e : Expr} {x : I}, compI c n sc e = some x → CI c sc e x
  | 0, _, _, _, h => by simp [compI] at h
  | n + 1, sc, e, x, h => by
    unfold compI at h
    split at h
    · split at h
      · rename_i hc
        simp only [Bool.and_eq_true] at hc
        obtain ⟨⟨c1, c2⟩, c3⟩ := hc
        have hf := str_of_beq c1
        obtain ⟨a, h2, k1⟩ := map_some h
        subst k1
        subst hf
        exact .rng (gliB_ok c2) (compEs_ok h2) (Nat.le_of_ble_eq_true c3)
      · obtain ⟨a, h2, h⟩ := map_some h
        subst h
        exact .seq (compE_ok h2)
    · obtain ⟨a, h2, h⟩ := map_some h
      subst h
      exact .seq (compE_ok h2)
end
end PV

set_option Elab.async false
set_option linter.all false
set_option maxRecDepth 100000
set_option maxHeartbeats 4000000
/-! PV13: whole defs; tables of defs; the law's end. -/
namespace PV
open PySem PySem.Spec PyProof.Rows L2

/-! ### names whose lists change -/
def recv : Expr → List Str
  | .Call (.Attribute (.Name x _) f _) _ _ _ => if f == ("append" : Str) || f == ("extend" : Str) || f == ("insert" : Str) || f == ("pop" : Str) then [x] else []
  | _ => []
mutual
def mutS : Nat → Stmt → List Str
  | 0, _ => []
  | n + 1, st => match st with
    | .Expr e _ => recv e
    | .Assign [.Subscript (.Name x _) _ _] e _ => x :: recv e
    | .Assign _ e _ => recv e
    | .If _ a b _ => mutSs n a ++ mutSs n b
    | .For _ _ a _ _ => mutSs n a
    | .While _ a _ _ => mutSs n a
    | _ => []
def mutSs : Nat → List Stmt → List Str
  | 0, _ => []
  | n + 1, l => match l with
    | [] => []
    | st :: r => mutS n st ++ mutSs n r
end
def mutSlots (N : List Str) (l : List Str) : List Nat := l.filterMap fun x => idxOf x N
/-! ### slots whose values go elsewhere -/
mutual
def shE : E → List Nat
  | .v i => [i]
  | .c _ => [] | .bin _ _ _ => [] | .neg _ => [] | .cmp _ _ _ => [] | .chain _ _ _ _ _ => [] | .not _ => [] | .ix _ _ => [] | .sl _ _ _ => [] | .rev _ => [] | .rngl _ => [] | .call _ _ => [] | .bi _ _ => []
  | .and _ y => shE y
  | .or _ y => shE y
  | .ite _ x y => shE x ++ shE y
  | .tup es => shEs es
  | .lst es => shEs es
  | .comp own _ _ _ x => (shE x).filter fun i => !own.contains i
  | .comp2 own _ _ _ _ _ _ _ x => (shE x).filter fun i => !own.contains i
def shEs : Es → List Nat
  | .nil => []
  | .cons e es => shE e ++ shEs es
end
def fresh : E → Bool
  | .lst _ => true | .sl _ _ _ => true | .rev _ => true | .rngl _ => true | .call _ _ => true | .comp _ _ _ _ _ => true | .comp2 _ _ _ _ _ _ _ _ _ => true
  | .bi .list _ => true | .bi .sorted _ => true
  | _ => false
def shI : I → List Nat
  | .seq e => shE e
  | .rng _ => []
/-- ahead of a statement -/
def before : S → List Nat
  | .asg _ e => shE e
  | .asgs _ e => shE e
  | .par _ _ a b => shE a ++ shE b
  | .par3 _ _ _ a b d => shE a ++ shE b ++ shE d
  | .app _ e => shE e
  | .ext _ e => shE e
  | .ins _ _ e => shE e
  | .put _ _ e => shE e
  | .ret (.v _) => []
  | .ret e => shE e
  | .for_ _ it _ => shI it
  | _ => []
def after (M : List Nat) : S → List Nat
  | .par i j a b => (if fresh a && !M.contains i then [i] else []) ++ (if fresh b && !M.contains j then [j] else [])
  | .par3 i j l a b d => (if fresh a && !M.contains i then [i] else []) ++ (if fresh b && !M.contains j then [j] else []) ++ (if fresh d && !M.contains l then [l] else [])
  | _ => []
def shares (l : List Nat) (ss : Ss) : Ss := l.foldr (fun i ss => .cons (.share i) ss) ss
theorem shares_ok {c : Cfg} {sc : Sc} {sts : List Stmt} {ss : Ss} (h : CSs c sc sts ss) : ∀ l : List Nat, CSs c sc sts (shares l ss)
  | [] => h
  | _ :: l => .share (shares_ok h l)
def nameSlot (c : Cfg) (sc : Sc) (x : Str) : Option Nat := chk (visB sc x && okName x) (idxOf x c.N)
theorem nameSlot_ok {c : Cfg} {sc : Sc} {x : Str} {i : Nat} (h : nameSlot c sc x = some i) : c.N[i]? = some x ∧ vis sc x ∧ (x == ("__debug__" : Str)) = false ∧ (x == ("__classdict__" : Str)) = false := by
  obtain ⟨h1, h2⟩ := chk_some h
  rw [Bool.and_eq_true] at h1
  exact ⟨idxOf_ok h2, visB_ok h1.1, (okName_ok h1.2).1, (okName_ok h1.2).2⟩
/-- pairs that are stored at once -/
def compPar (c : Cfg) (sc : Sc) (n : Nat) (x y : Str) (px py : Pos) (a b : Expr) : Option S :=
  chk (localB sc x && localB sc y && !(x == y) && (px.line == py.line) && noStar a && noStar b && swapPair a b) ((idxOf x c.N).bind fun i => (idxOf y c.N).bind fun j => (compE c n sc a).bind fun xa => (compE c n sc b).map fun xb => .par i j xa xb)
def compPar3 (c : Cfg) (sc : Sc) (n : Nat) (x y z : Str) (px py pz : Pos) (a b d : Expr) : Option S :=
  chk (localB sc x && localB sc y && localB sc z && !(x == y) && !(x == z) && !(y == z) && (px.line == py.line) && (px.line == pz.line) && noStar a && noStar b && noStar d && swapTri a b d)
    ((idxOf x c.N).bind fun i => (idxOf y c.N).bind fun j => (idxOf z c.N).bind fun l => (compE c n sc a).bind fun xa => (compE c n sc b).bind fun xb => (compE c n sc d).map fun xd => .par3 i j l xa xb xd)
def orElse {α : Type} (a b : Option α) : Option α := match a with
  | some x => some x
  | none => b
theorem orElse_some {α : Type} {a b : Option α} {r : α} (h : orElse a b = some r) : a = some r ∨ b = some r := by
  cases a with
  | none => exact .inr h
  | some x => exact .inl h
/-- name = e -/
def compSet (c : Cfg) (sc : Sc) (M : List Nat) (n : Nat) (x : Str) (p : Pos) (e : Expr) : Option S :=
  (idxOf x c.N).bind fun i => (compE c n sc e).bind fun y => match M.contains i, yesSwap sc (.Name x p) e with
    | true, true => chk (localB sc x) (some (.asg (.nm i) y))
    | false, true => chk (localB sc x) (some (.asgs i y))
    | true, false => chk (locB sc x && noSwap sc (.Name x p) e) (some (.asg (.nm i) y))
    | false, false => chk (locB sc x && noSwap sc (.Name x p) e) (some (.asgs i y))
def compTup (c : Cfg) (sc : Sc) (n : Nat) (tg e : Expr) : Option S := chk (noSwap sc tg e && plainSt sc tg e) ((compG c sc n tg).bind fun g => (compE c n sc e).map fun y => .asg g y)
def compAsg (c : Cfg) (sc : Sc) (M : List Nat) (n : Nat) (tg e : Expr) : Option S := match tg, e with
  | .Subscript (.Name x _) a _, e => chk (noSlice a && noComp e) ((nameSlot c sc x).bind fun i => (compE c n sc a).bind fun z => (compE c n sc e).map fun y => .put i z y)
  | tg, .Call (.Attribute (.Name x _) f apos) [] [] cpos => chk (f == ("pop" : Str) && (apos.endLine == cpos.line)) ((nameSlot c sc x).bind fun i => (compG c sc n tg).map fun g => .pop g i)
  | .Tuple [.Name x px, .Name y py] kt pt, .Tuple [a, b] k2 pt2 => orElse (compPar c sc n x y px py a b) (compTup c sc n (.Tuple [.Name x px, .Name y py] kt pt) (.Tuple [a, b] k2 pt2))
  | .Tuple [.Name x px, .Name y py, .Name z pz] kt pt, .Tuple [a, b, d] k2 pt2 => orElse (compPar3 c sc n x y z px py pz a b d) (compTup c sc n (.Tuple [.Name x px, .Name y py, .Name z pz] kt pt) (.Tuple [a, b, d] k2 pt2))
  | .Name x p, e => compSet c sc M n x p e
  | tg, e => compTup c sc n tg e
theorem compPar_ok {c : Cfg} {sc : Sc} {n : Nat} {x y : Str} {px py pt pt2 pos : Pos} {kt k2 : Nat} {a b : Expr} {s : S} (h : compPar c sc n x y px py a b = some s) : CS c sc (.Assign [.Tuple [.Name x px, .Name y py] kt pt] (.Tuple [a, b] k2 pt2) pos) s := by
  obtain ⟨h1, h⟩ := chk_some h
  simp only [Bool.and_eq_true] at h1
  obtain ⟨⟨⟨⟨⟨⟨c1, c2⟩, c3⟩, c4⟩, c5⟩, c6⟩, c7⟩ := h1
  obtain ⟨i, h2, h⟩ := bind_some h
  obtain ⟨j, h3, h⟩ := bind_some h
  obtain ⟨xa, h4, h⟩ := bind_some h
  obtain ⟨xb, h5, h⟩ := map_some h
  subst h
  exact .par (idxOf_ok h2) (idxOf_ok h3) (localB_ok c1) (localB_ok c2) (not_true c3) c4 (compE_ok h4) (compE_ok h5) c5 c6 c7
theorem compPar3_ok {c : Cfg} {sc : Sc} {n : Nat} {x y z : Str} {px py pz pt pt2 pos : Pos} {kt k2 : Nat} {a b d : Expr} {s : S} (h : compPar3 c sc n x y z px py pz a b d = some s) : CS c sc (.Assign [.Tuple [.Name x px, .Name y py, .Name z pz] kt pt] (.Tuple [a, b, d] k2 pt2) pos) s := by
  obtain ⟨h1, h⟩ := chk_some h
  simp only [Bool.and_eq_true] at h1
  obtain ⟨⟨⟨⟨⟨⟨⟨⟨⟨⟨⟨c1, c2⟩, c3⟩, c4⟩, c5⟩, c6⟩, c7⟩, c8⟩, c9⟩, c10⟩, c11⟩, c12⟩ := h1
  obtain ⟨i, h2, h⟩ := bind_some h
  obtain ⟨j, h3, h⟩ := bind_some h
  obtain ⟨l, h3', h⟩ := bind_some h
  obtain ⟨xa, h4, h⟩ := bind_some h
  obtain ⟨xb, h5, h⟩ := bind_some h
  obtain ⟨xd, h6, h⟩ := map_some h
  subst h
  exact .par3 (idxOf_ok h2) (idxOf_ok h3) (idxOf_ok h3') (localB_ok c1) (localB_ok c2) (localB_ok c3) (not_true c4) (not_true c5) (not_true c6) c7 c8 (compE_ok h4) (compE_ok h5) (compE_ok h6) c9 c10 c11 c12
theorem compTup_ok {c : Cfg} {sc : Sc} {n : Nat} {tg e : Expr} {pos : Pos} {s : S} (h : compTup c sc n tg e = some s) : CS c sc (.Assign [tg] e pos) s := by
  obtain ⟨h1, h⟩ := chk_some h
  rw [Bool.and_eq_true] at h1
  obtain ⟨g, h2, h⟩ := bind_some h
  obtain ⟨y, h3, h⟩ := map_some h
  subst h
  exact .asg (compG_ok h2) (compE_ok h3) h1.1 h1.2
theorem yes_lc {sc : Sc} {x : Str} {p : Pos} {e : Expr} (h : yesSwap sc (.Name x p) e = true) : ∃ elt gs scope pos, e = .ListComp elt gs scope pos := by
  cases e <;> first | exact absurd h Bool.false_ne_true | exact ⟨_, _, _, _, rfl⟩
theorem plain_name {sc : Sc} {x : Str} {p : Pos} {e : Expr} : plainSt sc (.Name x p) e = true := by
  cases e <;> rfl
theorem compSet_ok {c : Cfg} {sc : Sc} {M : List Nat} {n : Nat} {x : Str} {p pos : Pos} {e : Expr} {s : S} (h : compSet c sc M n x p e = some s) : CS c sc (.Assign [.Name x p] e pos) s := by
  obtain ⟨i, h2, h⟩ := bind_some h
  obtain ⟨y, h3, h⟩ := bind_some h
  split at h
  · rename_i hy
    obtain ⟨h1, h⟩ := chk_some h
    cases h
    obtain ⟨elt, gs, scope, pos, rfl⟩ := yes_lc hy
    exact .asgLc (idxOf_ok h2) (localB_ok h1) (compE_ok h3) hy
  · rename_i hy
    obtain ⟨h1, h⟩ := chk_some h
    cases h
    obtain ⟨elt, gs, scope, pos, rfl⟩ := yes_lc hy
    exact .asgsLc (idxOf_ok h2) (localB_ok h1) (compE_ok h3) hy
  · obtain ⟨h1, h⟩ := chk_some h
    rw [Bool.and_eq_true] at h1
    cases h
    exact .asg (.nm (idxOf_ok h2) (locB_ok h1.1)) (compE_ok h3) h1.2 plain_name
  · obtain ⟨h1, h⟩ := chk_some h
    rw [Bool.and_eq_true] at h1
    cases h
    exact .asgs (idxOf_ok h2) (locB_ok h1.1) (compE_ok h3) h1.2
theorem compAsg_ok {c : Cfg} {sc : Sc} {M : List Nat} {n : Nat} {tg e : Expr} {pos : Pos} {s : S} (h : compAsg c sc M n tg e = some s) : CS c sc (.Assign [tg] e pos) s := by
  unfold compAsg at h
  split at h
  · obtain ⟨h1, h⟩ := chk_some h
    rw [Bool.and_eq_true] at h1
    obtain ⟨i, h2, h⟩ := bind_some h
    obtain ⟨z, h3, h⟩ := bind_some h
    obtain ⟨y, h4, h⟩ := map_some h
    subst h
    obtain ⟨n1, n2, n3, n4⟩ := nameSlot_ok h2
    exact .put n1 n2 n3 n4 (compE_ok h3) (compE_ok h4) h1.1 h1.2
  · obtain ⟨h1, k0⟩ := chk_some h
    rw [Bool.and_eq_true] at h1
    have hf := str_of_beq h1.1
    obtain ⟨i, h2, k1⟩ := bind_some k0
    obtain ⟨g, h3, k2⟩ := map_some k1
    subst k2
    subst hf
    obtain ⟨n1, n2, n3, n4⟩ := nameSlot_ok h2
    exact .pop (compG_ok h3) n1 n2 n3 n4 h1.2
  · rcases orElse_some h with h | h
    · exact compPar_ok h
    · exact compTup_ok h
  · rcases orElse_some h with h | h
    · exact compPar3_ok h
    · exact compTup_ok h
  · exact compSet_ok h
  · exact compTup_ok h
mutual
def compS (c : Cfg) (sc : Sc) (M : List Nat) : Nat → Stmt → Option S
  | 0, _ => none
  | n + 1, st => match st with
    | .Assign [tg] e _ => compAsg c sc M n tg e
    | .Expr (.Call (.Attribute (.Name x _) f apos) [e] [] cpos) _ => chk (noStar e && (apos.endLine == cpos.line)) ((nameSlot c sc x).bind fun i => (compE c n sc e).bind fun y => match f == ("append" : Str) with
        | true => some (.app i y)
        | false => chk (f == ("extend" : Str)) (some (.ext i y)))
    | .Expr (.Call (.Attribute (.Name x _) f apos) [a, e] [] cpos) _ => chk (noStar a && noStar e && (apos.endLine == cpos.line) && (f == ("insert" : Str))) ((nameSlot c sc x).bind fun i => (compE c n sc a).bind fun z => (compE c n sc e).map fun y => .ins i z y)
    | .Return (some e) _ => (compE c n sc e).map .ret
    | .Return none _ => some .retN
    | .If t a b _ => (compE c n sc t).bind fun z => (compSs c sc M n a).bind fun xa => (compSs c sc M n b).map fun xb => .ite z xa xb
    | .For tg iter body [] _ => chk (noSet iter) ((compG c sc n tg).bind fun g => (compI c n sc iter).bind fun it => (compSs c sc M n body).map fun b => .for_ g it b)
    | .While t body [] _ => (compE c n sc t).bind fun z => (compSs c sc M n body).map fun b => .while_ z b
    | .Raise _ _ _ => some .never
    | _ => none
def compSs (c : Cfg) (sc : Sc) (M : List Nat) : Nat → List Stmt → Option Ss
  | 0, _ => none
  | n + 1, l => match l with
    | [] => some .nil
    | st :: r => (compS c sc M n st).bind fun s => (compSs c sc M n r).map fun ss => shares ((before s).filter fun i => M.contains i) (.cons s (shares (after M s) ss))
end
mutual
theorem compS_ok {c : Cfg} {sc : Sc} {M : List Nat} : ∀ {n : Nat} {st : Stmt} {s : S}, compS c sc M n st = some s → CS c sc st s
  | 0, _, _, h => by simp [compS] at h
  | n + 1, st, s, h => by
    unfold compS at h
    split at h
    · exact compAsg_ok h
    · obtain ⟨h1, h⟩ := chk_some h
      rw [Bool.and_eq_true] at h1
      obtain ⟨i, h2, h⟩ := bind_some h
      obtain ⟨y, h3, h⟩ := bind_some h
      obtain ⟨n1, n2, n3, n4⟩ := nameSlot_ok h2
      split at h
      · rename_i hf
        cases h
        have hf := str_of_beq hf
        subst hf
        exact .app n1 n2 n3 n4 (compE_ok h3) h1.1 h1.2
      · obtain ⟨hf, h⟩ := chk_some h
        cases h
        have hf := str_of_beq hf
        subst hf
        exact .ext n1 n2 n3 n4 (compE_ok h3) h1.1 h1.2
    · obtain ⟨h1, h⟩ := chk_some h
      simp only [Bool.and_eq_true] at h1
      obtain ⟨i, h2, h⟩ := bind_some h
      obtain ⟨z, h3, h⟩ := bind_some h
      obtain ⟨y, h4, h⟩ := map_some h
      obtain ⟨n1, n2, n3, n4⟩ := nameSlot_ok h2
      subst h
      have hf := str_of_beq h1.2
      subst hf
      exact .ins n1 n2 n3 n4 (compE_ok h3) (compE_ok h4) h1.1.1.1 h1.1.1.2 h1.1.2
    · obtain ⟨y, h3, h⟩ := map_some h
      subst h
      exact .ret (compE_ok h3)
    · cases h; exact .retN
    · obtain ⟨z, h2, h⟩ := bind_some h
      obtain ⟨xa, h3, h⟩ := bind_some h
      obtain ⟨xb, h4, h⟩ := map_some h
      subst h
      exact .ite (compE_ok h2) (compSs_ok h3) (compSs_ok h4)
    · obtain ⟨h1, h⟩ := chk_some h
      obtain ⟨g, h2, h⟩ := bind_some h
      obtain ⟨it, h3, h⟩ := bind_some h
      obtain ⟨b, h4, h⟩ := map_some h
      subst h
      exact .for_ (compG_ok h2) (compI_ok h3) h1 (compSs_ok h4)
    · obtain ⟨z, h2, h⟩ := bind_some h
      obtain ⟨b, h4, h⟩ := map_some h
      subst h
      exact .while_ (compE_ok h2) (compSs_ok h4)
    · cases h; exact .never
    · cases h
theorem compSs_ok {c : Cfg} {sc : Sc} {M : List Nat} : ∀ {n : Nat} {st : List Stmt} {s : Ss}, compSs c sc M n st = some s → CSs c sc st s
  | 0, _, _, h => by simp [compSs] at h
  | n + 1, st, s, h => by
    unfold compSs at h
    split at h
    · cases h; exact .nil
    · obtain ⟨a, h2, h⟩ := bind_some h
      obtain ⟨b, h3, h⟩ := map_some h
      subst h
      exact shares_ok (.cons (compS_ok h2) (shares_ok (compSs_ok h3) _)) _
end
/-- a def's body -/
def compDef (c : Cfg) (st : Stmt) : Option Ss := compSs c (defScope st).names (mutSlots c.N (mutSs 100 (defBody st))) 100 (defBody st)

/-! ### a def keeps its promise -/
section
variable {P : Program} {w : World} {K : PySem.W.Frag} {mg : Str → Option Value} {base : Heap}
/-- the defs that are known -/
def TabOk (P : Program) (w : World) (K : PySem.W.Frag) (mg : Str → Option Value) (base : Heap) (k : Nat) (l : List (Str × Fn)) : Prop :=
  ∀ x f, l.lookup x = some f → ∃ a fd ps, mg x = some (.ref a) ∧ PySem.W.keepIn K (.ref a) = true ∧ Binds K fd ps [] ∧ FnG P w K mg base k a fd ps (spF K f)
def CstOk (K : PySem.W.Frag) (mg : Str → Option Value) (l : List (Str × PyData)) : Prop := ∀ x d, l.lookup x = some d → ∃ u v, mg x = some u ∧ RelV v u ∧ ∀ H O, Rp K H O v d
theorem start_get {N : List Str} {vs : List V} {i : Nat} {v : V} (h : vs[i]? = some v) : (L2.start N vs)[i]? = some (some v) := by
  obtain ⟨hi, e⟩ := List.getElem?_eq_some_iff.mp h
  unfold L2.start
  rw [List.getElem?_append_left (by simpa using hi), List.getElem?_map, h]
  rfl
theorem startR_get {n i : Nat} {ds : List PyData} {r : R} (h : (startR n ds)[i]? = some (some r)) : ∃ d, ds[i]? = some d ∧ r = (false, d) := by
  unfold startR at h
  by_cases hi : i < ds.length
  · rw [List.getElem?_append_left (by simpa using hi), List.getElem?_map] at h
    cases e : ds[i]? with
    | none => rw [e] at h; cases h
    | some d => rw [e] at h; cases h; exact ⟨d, rfl, rfl⟩
  · rw [List.getElem?_append_right (by simpa using hi), List.getElem?_replicate] at h
    split at h <;> cases h
theorem fn_ok {name : Str} {st : Stmt} {f : Addr} {fd : FuncData} {N ps : List Str} {k n : Nat} {tab : List (Str × Fn)} {cst : List (Str × PyData)} {body : Ss} (F : Fun K name name st f fd) (S : FnScope N ps (defScope st)) (T : TabOk P w K mg base k tab) (C : CstOk K mg cst) (blt : ∀ x ∈ builtinsUsed, mg x = none)
    (hc : compDef ⟨N, fun x => tab.lookup x, fun x => cst.lookup x⟩ st = some body) : FnG P w K mg base (k + 1) f fd ps (spF K (evDef n ps.length N.length body)) := by
  have hpl : ps.length ≤ N.length := by have := congrArg List.length S.pre; rw [List.length_take] at this; omega
  refine fnG_of F S (fun vs H Q E h => ?_) (fun cdv A outer s H vs Q E hst hr h => ?_)
  · obtain ⟨P', ds, r, hP, hv, hf, q⟩ := h
    unfold evDef at hf
    split at hf
    · rename_i hl; rw [hv.length]; exact hl
    · cases hf
  · obtain ⟨P', ds, r, hP, hv, hf, q⟩ := h
    unfold evDef at hf
    split at hf
    case isFalse => cases hf
    rename_i hl
    have gd : Good ⟨N, fun x => tab.lookup x, fun x => cst.lookup x⟩ k (defScope st).names (cxOf CX0 P w K mg base N name (defScope st) f cdv A outer s H E).nox :=
      ⟨rfl, S.nd, rfl, S.kind, fun _ h => h, fun _ h => ⟨h, rfl⟩, fun _ h => .inr h, fun _ h => h, hst, hr, PassesOwn.never, T, blt, C⟩
    refine ⟨_, soundSs (n := n) gd (compSs_ok hc), ?_⟩
    have ok : Ok K P' H (fun _ => none) H (L2.start N vs) (startR N.length ds) := by
      refine ⟨?_, Same.refl H, (fun i j a e => nomatch e), (fun i a e => nomatch e), (fun i a e => nomatch e), hP, fun i r e => ?_⟩
      · unfold L2.start startR
        rw [List.length_append, List.length_append, List.length_map, List.length_map, List.length_replicate, List.length_replicate, hv.length]
      · obtain ⟨d, e1, e2⟩ := startR_get e
        subst e2
        obtain ⟨v, e3, h⟩ := hv.get e1
        exact ⟨v, start_get e3, Rp.less h fun a z => z.elim _root_.id fun ⟨_, z⟩ => nomatch z⟩
    cases ev : evSs n body (startR N.length ds) with
    | none => rw [ev] at hf; cases hf
    | some out =>
      rw [ev] at hf
      refine ⟨P', H, _, _, out, ok, ev, ?_⟩
      cases out with
      | nx ρ' =>
        cases hf
        exact fun A' σ' H' ok' _ => q .non H' ok'.grow .non
      | rt r' =>
        cases hf
        exact fun v H' s h => q v H' s h
      | bk ρ' => cases hf
      | ct ρ' => cases hf
theorem TabOk.nil : TabOk P w K mg base 0 [] := fun _ _ h => nomatch h
theorem TabOk.cons {k : Nat} {tab : List (Str × Fn)} {x : Str} {fn : Fn} {a : Addr} {fd : FuncData} {ps : List Str} (T : TabOk P w K mg base k tab) (hm : mg x = some (.ref a)) (hk : PySem.W.keepIn K (.ref a) = true) (B : Binds K fd ps []) (F : FnG P w K mg base (k + 1) a fd ps (spF K fn)) : TabOk P w K mg base (k + 1) ((x, fn) :: tab) := by
  intro y g h
  rw [List.lookup_cons] at h
  split at h
  · rename_i e
    cases h
    rw [beq_iff_eq.mp e]
    exact ⟨a, fd, ps, hm, hk, B, F⟩
  · obtain ⟨a', fd', ps', h1, h2, h3, h4⟩ := T y g h
    exact ⟨a', fd', ps', h1, h2, h3, h4.mono (Nat.le_succ k)⟩
/-- one more def, by its text -/
theorem TabOk.more {k n : Nat} {tab : List (Str × Fn)} {cst : List (Str × PyData)} {name : Str} {st : Stmt} {f : Addr} {fd : FuncData} {N ps : List Str} {body : Ss} {fn : Fn} (T : TabOk P w K mg base k tab) (C : CstOk K mg cst) (blt : ∀ x ∈ builtinsUsed, mg x = none) (hm : mg name = some (.ref f)) (F : Fun K name name st f fd) (B : Binds K fd ps []) (S : FnScope N ps (defScope st))
    (hc : compDef ⟨N, fun x => tab.lookup x, fun x => cst.lookup x⟩ st = some body) (hf : fn = evDef n ps.length N.length body) : TabOk P w K mg base (k + 1) ((name, fn) :: tab) := by
  subst hf
  exact T.cons hm F.kp B (fn_ok F S T C blt hc)
end
end PV

set_option Elab.async false
set_option linter.all false
set_option maxRecDepth 100000
set_option maxHeartbeats 4000000
/-! PVL: the law's end; plain rules for loops. -/
namespace PV
open PySem PySem.Spec PyProof.Rows L2
def FUEL : Nat := 1000000000000000
/-- no list stands in the written part -/
def isLst (o : Obj) : Bool := match o.cls with
  | .type s => s == "list"
  | _ => false
def noLst (K : PySem.W.Frag) : Bool := K.all fun p => !isLst p.2
theorem lookup_mem {a : Addr} {o : Obj} : ∀ {K : PySem.W.Frag}, K.lookup a = some o → (a, o) ∈ K
  | [], h => by cases h
  | (b, u) :: r, h => by
    rw [List.lookup_cons] at h
    split at h
    · rename_i e
      cases h
      rw [beq_iff_eq.mp e]
      exact List.mem_cons_self
    · exact List.mem_cons_of_mem _ (lookup_mem h)
theorem rd_of_sq {K : PySem.W.Frag} {H : Hp} {a : Addr} {xs : List V} (hK : noLst K = true) (h : SqL K H a xs) : Rd H a (.lst xs) := by
  rcases h with h | ⟨o, its, n, e, hc, _⟩
  · exact h
  · have hm : (a, o) ∈ K := lookup_mem e
    have := List.all_eq_true.mp hK _ hm
    unfold isLst at this
    rw [hc] at this
    cases this
theorem spF_law {K : PySem.W.Frag} {H : Hp} {a : Addr} {ns : List Int} {f : Fn} {E0 : XK} (hK : noLst K = true) (hS : SqL K H a (ns.map V.int)) (h : f [.list (ns.map .int)] = some (false, .bool true)) : spF K f [.ref a] H (fun v _ => v = .bl true) E0 :=
  ⟨fun _ => False, [.list (ns.map .int)], _, fun _ z => z.elim, .cons (.lst (rd_of_sq hK hS) (fun z => z) rpA_ints) .nil, h, fun v H' _ r => by cases r; rfl⟩
theorem CstOk.nil {K : PySem.W.Frag} {mg : Str → Option Value} : CstOk K mg [] := fun _ _ h => nomatch h
theorem builtins_none {mg : Str → Option Value} (h0 : mg "len" = none) (h1 : mg "abs" = none) (h2 : mg "int" = none) (h3 : mg "min" = none) (h4 : mg "max" = none) (h5 : mg "sum" = none) (h6 : mg "sorted" = none) (h7 : mg "list" = none) (h8 : mg "tuple" = none) (h9 : mg "isinstance" = none) (h10 : mg "bool" = none) (h11 : mg "str" = none) (h12 : mg "range" = none) (h13 : mg "repr" = none) (h14 : mg "set" = none) : ∀ x ∈ builtinsUsed, mg x = none := by
  intro x hx
  unfold builtinsUsed at hx
  simp only [List.mem_cons, List.not_mem_nil, or_false] at hx
  rcases hx with rfl | rfl | rfl | rfl | rfl | rfl | rfl | rfl | rfl | rfl | rfl | rfl | rfl | rfl | rfl <;> assumption
end PV

set_option Elab.async false
set_option linter.all false
set_option maxRecDepth 100000
set_option maxHeartbeats 4000000
/-! PVM: plain rules over natural numbers. -/
namespace PV
open PySem L2
/-- a natural number as data -/
def N (n : Nat) : PyData := .int n
abbrev sN (n : Nat) : Option R := some (false, N n)
theorem N_def (n : Nat) : PyData.int (n : Int) = N n := rfl
theorem N_zero : PyData.int 0 = N 0 := rfl
theorem N_one : PyData.int 1 = N 1 := rfl
theorem N_inj {a b : Nat} : N a = N b ↔ a = b := ⟨fun h => by unfold N at h; injection h with h; omega, fun h => by rw [h]⟩
theorem log2_lt {a : Nat} (h : a < 2 ^ 400000) : a.log2 < 400000 := by
  by_cases h0 : a = 0
  · subst h0; rw [Nat.log2_zero]; omega
  · exact (Nat.log2_lt h0).mpr h
def big (a : Nat) : Prop := a < 2 ^ 400000
theorem n_add (a b : Nat) : evBin .add (N a) (N b) = some (false, N (a + b)) := by
  show some (false, PyData.int ((a : Int) + b)) = some (false, PyData.int ((a + b : Nat) : Int))
  rw [Int.natCast_add]
theorem n_sub {a b : Nat} (h : b ≤ a) : evBin .sub (N a) (N b) = some (false, N (a - b)) := by
  show some (false, PyData.int ((a : Int) - b)) = some (false, PyData.int ((a - b : Nat) : Int))
  rw [Int.natCast_sub h]
theorem small_lt {a : Nat} (h : a < 2 ^ 64) : a.log2 < 64 := by
  by_cases h0 : a = 0
  · subst h0; rw [Nat.log2_zero]; omega
  · exact (Nat.log2_lt h0).mpr h
theorem n_mul {a b : Nat} (ha : a < 2 ^ 64) (hb : b < 2 ^ 64) : evBin .mul (N a) (N b) = some (false, N (a * b)) := by
  have hm : mulOk (a : Int) (b : Int) = true := by
    unfold mulOk
    have h1 := small_lt ha
    have h2 := small_lt hb
    simp only [Int.natAbs_natCast, Nat.blt_eq]
    omega
  show (if mulOk (a : Int) (b : Int) then some (false, PyData.int ((a : Int) * b)) else none) = some (false, PyData.int ((a * b : Nat) : Int))
  rw [if_pos hm, Int.natCast_mul]
theorem n_mod {a b : Nat} (h : 0 < b) : evBin .mod (N a) (N b) = some (false, N (a % b)) := by
  show (if decide ((0 : Int) < (b : Int)) then some (false, PyData.int ((a : Int) % b)) else none) = some (false, PyData.int ((a % b : Nat) : Int))
  rw [if_pos (decide_eq_true (by omega)), Int.natCast_emod]
theorem n_div {a b : Nat} (h : 0 < b) (hb : b < 2 ^ 64) : evBin .fdiv (N a) (N b) = some (false, N (a / b)) := by
  have hm : divOk (b : Int) = true := by
    unfold divOk
    have h2 := small_lt hb
    simp only [Int.natAbs_natCast, Nat.blt_eq, Bool.and_eq_true, decide_eq_true_eq]
    omega
  show (if divOk (b : Int) then some (false, PyData.int ((a : Int).fdiv b)) else none) = some (false, PyData.int ((a / b : Nat) : Int))
  rw [if_pos hm, Int.fdiv_eq_ediv_of_nonneg _ (by omega), Int.natCast_ediv]
theorem n_shl {a b : Nat} (ha : a < 2 ^ 64) (hb : b ≤ 1000000) : evBin .shl (N a) (N b) = some (false, N (a * 2 ^ b)) := by
  have hm : powOk (a : Int) (b : Int) = true := by
    unfold powOk
    simp only [Int.natAbs_natCast, Nat.blt_eq, Bool.and_eq_true, decide_eq_true_eq]
    omega
  show (if powOk (a : Int) (b : Int) then some (false, PyData.int ((a : Int) * 2 ^ (b : Int).toNat)) else none) = some (false, PyData.int ((a * 2 ^ b : Nat) : Int))
  rw [if_pos hm, Int.toNat_natCast, Int.natCast_mul, Int.natCast_pow]
  rfl
theorem n_shr (a b : Nat) : evBin .shr (N a) (N b) = some (false, N (a / 2 ^ b)) := by
  show (if decide ((0 : Int) ≤ (b : Int)) then some (false, PyData.int ((a : Int) / 2 ^ (b : Int).toNat)) else none) = some (false, PyData.int ((a / 2 ^ b : Nat) : Int))
  rw [if_pos (decide_eq_true (by omega)), Int.toNat_natCast, Int.natCast_ediv, Int.natCast_pow]
  rfl
theorem n_band (a b : Nat) : evBin .band (N a) (N b) = some (false, N (a &&& b)) := by
  show some (false, PyData.int (Builtin.bitAnd a b)) = _
  rfl
theorem n_bor (a b : Nat) : evBin .bor (N a) (N b) = some (false, N (a ||| b)) := by
  have e : ∀ c : Nat, Builtin.bitNot (Builtin.bitNot (c : Int)) = c := fun c => by unfold Builtin.bitNot; omega
  have d : ∀ c : Nat, decide (0 ≤ Builtin.bitNot (c : Int)) = false := fun c => decide_eq_false (by unfold Builtin.bitNot; omega)
  show some (false, PyData.int (Builtin.bitOr a b)) = _
  unfold Builtin.bitOr Builtin.bitAnd
  rw [d a, d b]
  show some (false, PyData.int (Builtin.bitNot (Builtin.bitNot (((Builtin.bitNot (Builtin.bitNot (a : Int))).toNat ||| (Builtin.bitNot (Builtin.bitNot (b : Int))).toNat : Nat) : Int)))) = _
  rw [e, e, e, Int.toNat_natCast, Int.toNat_natCast]
  rfl
theorem n_eq (a b : Nat) : evCmp .eq (N a) (N b) = some (decide (a = b)) := by
  show some (decide ((a : Int) = (b : Int))) = some (decide (a = b))
  simp only [Int.ofNat_inj]
theorem n_ne (a b : Nat) : evCmp .ne (N a) (N b) = some (!decide (a = b)) := by
  show some (!decide ((a : Int) = (b : Int))) = some (!decide (a = b))
  simp only [Int.ofNat_inj]
theorem n_lt (a b : Nat) : evCmp .lt (N a) (N b) = some (decide (a < b)) := by
  show some (decide ((a : Int) < (b : Int))) = some (decide (a < b))
  simp only [Int.ofNat_lt]
theorem n_gt (a b : Nat) : evCmp .gt (N a) (N b) = some (decide (b < a)) := by
  show some (decide ((b : Int) < (a : Int))) = some (decide (b < a))
  simp only [Int.ofNat_lt]
theorem n_le (a b : Nat) : evCmp .le (N a) (N b) = some (decide (a ≤ b)) := by
  show some (decide ((a : Int) ≤ (b : Int))) = some (decide (a ≤ b))
  simp only [Int.ofNat_le]
theorem n_ge (a b : Nat) : evCmp .ge (N a) (N b) = some (decide (b ≤ a)) := by
  show some (decide ((b : Int) ≤ (a : Int))) = some (decide (b ≤ a))
  simp only [Int.ofNat_le]
theorem lenOk_of {n : Nat} (h : n ≤ 16777216) : lenOk n = true := Nat.ble_eq_true_of_le h
theorem smallN {a : Nat} (h : a ≤ 1000000000) : smallI (a : Int) = true := by
  unfold smallI
  simp only [Bool.and_eq_true, decide_eq_true_eq]
  omega
theorem rngI_N (a n : Nat) : rngI (a : Int) n = (List.range' a n).map N := by
  unfold rngI
  rw [List.range'_eq_map_range, List.map_map]
  exact List.map_congr_left fun k _ => by simp [N]
theorem n_rng1 {n : Nat} (h : n ≤ 1000000) : evRng [N n] = some ((List.range n).map N) := by
  show (if smallI (n : Int) && lenOk (n : Int).toNat then some (rngI 0 (n : Int).toNat) else none) = _
  rw [smallN (by omega), Int.toNat_natCast, lenOk_of (by omega)]
  show some (rngI ((0 : Nat) : Int) n) = _
  rw [rngI_N, List.range_eq_range']
theorem n_rng2 {a b : Nat} (ha : a ≤ 1000000) (h : b ≤ 1000000) : evRng [N a, N b] = some ((List.range' a (b - a)).map N) := by
  have e : ((b : Int) - (a : Int)).toNat = b - a := by omega
  show (if smallI (a : Int) && smallI (b : Int) && lenOk ((b : Int) - (a : Int)).toNat then some (rngI (a : Int) ((b : Int) - (a : Int)).toNat) else none) = _
  rw [smallN (by omega), smallN (by omega), e, lenOk_of (by omega), rngI_N]
  rfl
/-- comprehensions -/
theorem compGo_map {α β : Type} {f : PyData → Option (Option PyData)} {enc : α → PyData} {en2 : β → PyData} (g : α → Option β) : ∀ (l : List α), (∀ x ∈ l, f (enc x) = some ((g x).map en2)) → compGo f (l.map enc) = some ((l.filterMap g).map en2)
  | [], _ => rfl
  | x :: l, h => by
    have ih := compGo_map g l fun y hy => h y (List.mem_cons_of_mem _ hy)
    rw [List.map_cons]
    unfold compGo
    rw [h x List.mem_cons_self]
    cases e : g x with
    | none => rw [List.filterMap_cons_none e]; exact ih
    | some y => rw [List.filterMap_cons_some e]; show (match compGo f (l.map enc) with | none => none | some ys => some (en2 y :: ys)) = _; rw [ih]; rfl
theorem compGo2_map {α β : Type} {f : PyData → Option (List PyData)} {enc : α → PyData} {en2 : β → PyData} (g : α → List β) : ∀ (l : List α), (∀ x ∈ l, f (enc x) = some ((g x).map en2)) → compGo2 f (l.map enc) = some ((l.flatMap g).map en2)
  | [], _ => rfl
  | x :: l, h => by
    have ih := compGo2_map g l fun y hy => h y (List.mem_cons_of_mem _ hy)
    rw [List.map_cons]
    unfold compGo2
    rw [h x List.mem_cons_self]
    show (match compGo2 f (l.map enc) with | none => none | some ys => some ((g x).map en2 ++ ys)) = _
    rw [ih, List.flatMap_cons, List.map_append]
theorem intsOf_N : ∀ l : List Nat, intsOf (l.map N) = some (l.map fun n : Nat => (n : Int))
  | [] => rfl
  | x :: l => by
    rw [List.map_cons, List.map_cons]
    show (intsOf (l.map N)).map _ = _
    rw [intsOf_N l]
    rfl
theorem n_sum (l : List Nat) : evBI .sum [.list (l.map N)] = some (false, N l.sum) := by
  show (intsOf (l.map N)).map _ = _
  rw [intsOf_N]
  have e : (l.map fun n : Nat => (n : Int)).sum = (l.sum : Int) := by
    induction l with
    | nil => rfl
    | cons x l ih => rw [List.map_cons, List.sum_cons, List.sum_cons, ih, Int.natCast_add]
  show some (false, PyData.int (l.map fun n : Nat => (n : Int)).sum) = _
  rw [e]
  rfl
theorem n_len (l : List PyData) : evBI .len [.list l] = some (false, N l.length) := rfl
end PV
namespace PV
open PySem L2
/-- a loop that runs to its end -/
theorem forGo_ind {α : Type} {g : G} {f : Sl → Option Out} (enc : α → PyData) (I : List α → Sl → Prop) : ∀ (l done : List α) (ρ : Sl), I done ρ →
    (∀ (pre : List α) (x : α) (suf : List α) (ρ : Sl), done ++ l = pre ++ x :: suf → I pre ρ → ∃ ρ1 ρ2, asg g (enc x) ρ = some ρ1 ∧ f ρ1 = some (.nx ρ2) ∧ I (pre ++ [x]) ρ2) → ∃ ρ', forGo g f (l.map enc) ρ = some (.nx ρ') ∧ I (done ++ l) ρ'
  | [], done, ρ, h0, _ => ⟨ρ, rfl, by rw [List.append_nil]; exact h0⟩
  | x :: l, done, ρ, h0, hs => by
    obtain ⟨ρ1, ρ2, e1, e2, h2⟩ := hs done x l ρ rfl h0
    have ea : done ++ [x] ++ l = done ++ x :: l := by rw [List.append_assoc]; rfl
    obtain ⟨ρ', e3, h3⟩ := forGo_ind enc I l (done ++ [x]) ρ2 h2 fun pre y suf ρ he => hs pre y suf ρ (ea ▸ he)
    refine ⟨ρ', ?_, ea ▸ h3⟩
    rw [List.map_cons, forGo, e1]
    show (match f ρ1 with | some (.nx ρ2) => forGo g f (l.map enc) ρ2 | some (.ct ρ2) => forGo g f (l.map enc) ρ2 | some (.bk ρ2) => some (.nx ρ2) | some (.rt r) => some (.rt r) | none => none) = _
    rw [e2]
    exact e3
theorem forGo_do {α : Type} {g : G} {f : Sl → Option Out} (enc : α → PyData) (I : List α → Sl → Prop) {l : List α} {ρ : Sl} (h0 : I [] ρ)
    (hs : ∀ (pre : List α) (x : α) (suf : List α) (ρ : Sl), l = pre ++ x :: suf → I pre ρ → ∃ ρ1 ρ2, asg g (enc x) ρ = some ρ1 ∧ f ρ1 = some (.nx ρ2) ∧ I (pre ++ [x]) ρ2) : ∃ ρ', forGo g f (l.map enc) ρ = some (.nx ρ') ∧ I l ρ' :=
  forGo_ind enc I l [] ρ h0 hs
theorem filterMap_some {α β : Type} (f : α → β) (l : List α) : l.filterMap (fun x => some (f x)) = l.map f := by
  induction l with
  | nil => rfl
  | cons x l ih => simp [ih]
theorem sum_const {α : Type} (w : Nat) (l : List α) : (l.map fun _ => w).sum = l.length * w := by
  induction l with
  | nil => simp
  | cons x l ih => rw [List.map_cons, List.sum_cons, ih, List.length_cons, Nat.succ_mul, Nat.add_comm]
end PV
namespace PV
theorem lenOk_0 : lenOk 0 = true := rfl
theorem lenOk_1 : lenOk 1 = true := rfl
theorem lenOk_2 : lenOk 2 = true := rfl
theorem lenOk_3 : lenOk 3 = true := rfl
theorem lenOk_4 : lenOk 4 = true := rfl
theorem lenOk_5 : lenOk 5 = true := rfl
theorem lenOk_6 : lenOk 6 = true := rfl
theorem lenOk_7 : lenOk 7 = true := rfl
theorem lenOk_8 : lenOk 8 = true := rfl
theorem n_rng2' {a b : Nat} (ha : a ≤ 1000) (h : b ≤ 1000) : evRng [N a, N b] = some ((List.range' a (b - a)).map N) := n_rng2 (Nat.le_trans ha (by decide)) (Nat.le_trans h (by decide))
end PV
namespace PV
open PySem L2
theorem q_lit (n : Nat) : PyData.int (@OfNat.ofNat Int n instOfNat) = N n := Eq.trans rfl (Eq.refl _)
def minN : Nat → List Nat → Nat
  | m, [] => m
  | m, x :: xs => minN (if x < m then x else m) xs
def insN (x : Nat) : List Nat → List Nat
  | [] => [x]
  | y :: ys => if x ≤ y then x :: y :: ys else y :: insN x ys
def sortN : List Nat → List Nat
  | [] => []
  | x :: xs => insN x (sortN xs)
def dedupN : List Nat → List Nat
  | [] => []
  | x :: xs => if xs.contains x then dedupN xs else x :: dedupN xs
abbrev casts (l : List Nat) : List Int := l.map fun n : Nat => (n : Int)
theorem minI_N : ∀ (l : List Nat) (m : Nat), minI (m : Int) (casts l) = (minN m l : Int)
  | [], m => rfl
  | x :: l, m => by
    show minI (if (x : Int) < (m : Int) then (x : Int) else (m : Int)) (casts l) = (minN (if x < m then x else m) l : Int)
    by_cases h : x < m
    · rw [if_pos h, if_pos (by omega)]; exact minI_N l x
    · rw [if_neg h, if_neg (by omega)]; exact minI_N l m
theorem insI_N (x : Nat) : ∀ l : List Nat, insI (x : Int) (casts l) = casts (insN x l)
  | [] => rfl
  | y :: l => by
    show (if (x : Int) ≤ (y : Int) then (x : Int) :: (y : Int) :: casts l else (y : Int) :: insI (x : Int) (casts l)) = casts (if x ≤ y then x :: y :: l else y :: insN x l)
    by_cases h : x ≤ y
    · rw [if_pos h, if_pos (by omega)]; rfl
    · rw [if_neg h, if_neg (by omega), insI_N x l]; rfl
theorem sortI_N : ∀ l : List Nat, sortI (casts l) = casts (sortN l)
  | [] => rfl
  | x :: l => by
    show insI (x : Int) (sortI (casts l)) = casts (insN x (sortN l))
    rw [sortI_N l, insI_N]
theorem contains_N (x : Nat) (l : List Nat) : (casts l).contains (x : Int) = l.contains x := by
  rw [Bool.eq_iff_iff, List.contains_iff_mem, List.contains_iff_mem, List.mem_map]
  constructor
  · rintro ⟨a, h1, h2⟩
    have : a = x := by omega
    rw [← this]; exact h1
  · intro h; exact ⟨x, h, rfl⟩
theorem dedupI_N : ∀ l : List Nat, dedupI (casts l) = casts (dedupN l)
  | [] => rfl
  | x :: l => by
    show (if (casts l).contains (x : Int) then dedupI (casts l) else (x : Int) :: dedupI (casts l)) = casts (if l.contains x then dedupN l else x :: dedupN l)
    rw [contains_N, dedupI_N l]
    cases l.contains x <;> rfl
theorem casts_N (l : List Nat) : (casts l).map PyData.int = l.map N := by
  rw [List.map_map]; rfl
theorem n_min (x : Nat) (l : List Nat) : evBI .min [.list ((x :: l).map N)] = some (false, N (minN x l)) := by
  show (intsOf ((x :: l).map N)).bind _ = _
  rw [intsOf_N]
  show some (false, PyData.int (minI (x : Int) (casts l))) = _
  rw [minI_N]; rfl
theorem n_sset {l : List Nat} (h : l.length < 64) : evBI .sortedSet [.list (l.map N)] = some (true, .list ((sortN (dedupN l)).map N)) := by
  show (intsOf (l.map N)).bind _ = _
  rw [intsOf_N]
  show (if Nat.blt (casts l).length 64 then some (true, PyData.list ((sortI (dedupI (casts l))).map PyData.int)) else none) = _
  have hb : Nat.blt (casts l).length 64 = true := Nat.ble_eq_true_of_le (by rw [List.length_map]; exact h)
  rw [if_pos hb, dedupI_N, sortI_N, casts_N]
/-- the items that are kept -/
def keepIf {α : Type} (p : α → Bool) (l : List α) : List α := l.filterMap fun x => if p x then some x else none
end PV
namespace PV
open PySem L2
theorem atI_N {α : Type} (ds : List α) (i : Nat) : L2.atI ds (i : Int) = ds[i]? := by
  unfold L2.atI L2.ixN
  rw [if_pos (by omega : (0 : Int) ≤ (i : Int))]
  by_cases h : i < ds.length
  · rw [if_pos (by omega), Option.bind_some, Int.toNat_natCast]
  · rw [if_neg (by omega), List.getElem?_eq_none (by omega)]
    rfl
theorem n_ixt (ds : List PyData) (i : Nat) : evIx (.tuple ds) (N i) = (ds[i]?).map fun d => (false, d) := by
  show (L2.atI ds (i : Int)).map _ = _
  rw [atI_N]
theorem n_ixl (ds : List PyData) (i : Nat) : evIx (.list ds) (N i) = (ds[i]?).map fun d => (false, d) := by
  show (L2.atI ds (i : Int)).map _ = _
  rw [atI_N]
theorem q_isn (d : PyData) : evCmp .isn d .none = some (isNone d) := by cases d <;> rfl
theorem q_notn (d : PyData) : evCmp .notn d .none = some (!isNone d) := by cases d <;> rfl
end PV
namespace PV
open PySem L2
theorem q_l2 : PyData.int 2 = N 2 := Eq.trans rfl (Eq.refl _)
theorem q_l3 : PyData.int 3 = N 3 := Eq.trans rfl (Eq.refl _)
theorem q_l4 : PyData.int 4 = N 4 := Eq.trans rfl (Eq.refl _)
theorem q_l5 : PyData.int 5 = N 5 := Eq.trans rfl (Eq.refl _)
theorem q_l6 : PyData.int 6 = N 6 := Eq.trans rfl (Eq.refl _)
theorem q_l7 : PyData.int 7 = N 7 := Eq.trans rfl (Eq.refl _)
theorem q_l8 : PyData.int 8 = N 8 := Eq.trans rfl (Eq.refl _)
theorem q_l9 : PyData.int 9 = N 9 := Eq.trans rfl (Eq.refl _)
theorem q_l10 : PyData.int 10 = N 10 := Eq.trans rfl (Eq.refl _)
theorem q_l11 : PyData.int 11 = N 11 := Eq.trans rfl (Eq.refl _)
theorem q_l12 : PyData.int 12 = N 12 := Eq.trans rfl (Eq.refl _)
theorem q_l13 : PyData.int 13 = N 13 := Eq.trans rfl (Eq.refl _)
end PV
namespace PV
open PySem L2
/-- comparison with the empty list -/
theorem eqv_nil (ds : List PyData) : PyData.eqv (.list ds) (.list []) = ds.isEmpty := by cases ds <;> rfl
theorem n_eqNil {ds : List PyData} (h : dok (.list ds) = true) : evCmp .eq (.list ds) (.list []) = some ds.isEmpty := by
  show (if dok (.list ds) && dok (.list []) then some (PyData.eqv (.list ds) (.list [])) else none) = _
  rw [h, eqv_nil]; rfl
theorem n_neNil {ds : List PyData} (h : dok (.list ds) = true) : evCmp .ne (.list ds) (.list []) = some (!ds.isEmpty) := by
  show (if dok (.list ds) && dok (.list []) then some (!PyData.eqv (.list ds) (.list [])) else none) = _
  rw [h, eqv_nil]; rfl
end PV
namespace PV
open PySem L2
/-- data that may be compared: k deep at most -/
def DK (k : Nat) (d : PyData) : Prop := d.depth ≤ k ∧ d.plain = true
theorem dk_N {k : Nat} (n : Nat) : DK k (N n) := by unfold DK N; simp [PyData.depth, PyData.plain]
theorem dk_int {k : Nat} (i : Int) : DK k (.int i) := by unfold DK; simp [PyData.depth, PyData.plain]
theorem dk_all {k : Nat} : ∀ {ds : List PyData}, (∀ d ∈ ds, DK k d) → PyData.depthAll ds ≤ k ∧ PyData.plainAll ds = true
  | [], _ => by simp [PyData.depthAll, PyData.plainAll]
  | d :: ds, h => by
    have h1 := h d List.mem_cons_self
    have h2 := dk_all fun x hx => h x (List.mem_cons_of_mem _ hx)
    simp only [PyData.depthAll, PyData.plainAll, h1.2, h2.2, Bool.and_self, and_true]
    exact Nat.max_le.mpr ⟨h1.1, h2.1⟩
theorem dk_list {k : Nat} {ds : List PyData} (h : ∀ d ∈ ds, DK k d) : DK (k + 1) (.list ds) := by
  have h2 := dk_all h
  unfold DK
  simp only [PyData.depth, PyData.plain, h2.2, and_true]
  omega
theorem dk_tuple {k : Nat} {ds : List PyData} (h : ∀ d ∈ ds, DK k d) : DK (k + 1) (.tuple ds) := by
  have h2 := dk_all h
  unfold DK
  simp only [PyData.depth, PyData.plain, h2.2, and_true]
  omega
theorem DK.mono {k j : Nat} {d : PyData} (h : DK k d) (hk : k ≤ j) : DK j d := ⟨Nat.le_trans h.1 hk, h.2⟩
theorem DK.dok {k : Nat} {d : PyData} (h : DK k d) (hk : k ≤ 50) : dok d = true := by
  unfold PV.dok
  rw [h.2, Bool.and_true]
  exact Nat.ble_eq_true_of_le (Nat.le_trans h.1 hk)
theorem dk_map {α : Type} {k : Nat} {enc : α → PyData} {l : List α} (h : ∀ x, DK k (enc x)) : ∀ d ∈ l.map enc, DK k d := fun d hd => by
  obtain ⟨x, _, rfl⟩ := List.mem_map.mp hd
  exact h x
theorem dk_two {k : Nat} {a b : PyData} (h1 : DK k a) (h2 : DK k b) : ∀ d ∈ [a, b], DK k d := fun d hd => by
  rcases List.mem_cons.mp hd with rfl | hd
  · exact h1
  · rw [List.mem_singleton.mp hd]; exact h2
end PV
namespace PV
open PySem L2
theorem n_sorted {ds : List PyData} (hi : intsOf ds = none) (h : sdok ds = true) : evBI .sorted [.list ds] = some (true, .list (ds.mergeSort (W.dataLe false fun d => d))) := by
  show (match intsOf ds with | some l => some (true, PyData.list ((sortI l).map PyData.int)) | none => if sdok ds then some (true, PyData.list (ds.mergeSort (W.dataLe false fun d => d))) else none) = _
  rw [hi, h]; rfl
theorem n_sortedNil : evBI .sorted [.list []] = some (true, .list []) := Eq.trans rfl (Eq.refl _)
/-- sorted of what may be sorted, in some order -/
theorem n_sortedP {ds : List PyData} (h : sdok ds = true) (hi : ∀ d ∈ ds, d.isInt = false) : ∃ es, evBI .sorted [.list ds] = some (true, .list es) ∧ es.Perm ds := by
  cases ds with
  | nil => exact ⟨[], n_sortedNil, .nil⟩
  | cons d ds =>
    have hn : intsOf (d :: ds) = none := by
      have := hi d List.mem_cons_self
      cases d <;> first | rfl | cases this
    exact ⟨_, n_sorted hn h, List.mergeSort_perm _ _⟩
end PV
namespace PV
theorem lenOk_9 : lenOk 9 = true := rfl
theorem lenOk_10 : lenOk 10 = true := rfl
theorem lenOk_11 : lenOk 11 = true := rfl
theorem lenOk_12 : lenOk 12 = true := rfl
end PV

set_option Elab.async false
set_option linter.all false
set_option maxRecDepth 100000
set_option maxHeartbeats 4000000
set_option autoImplicit true
set_option relaxedAutoImplicit true
/-! PVQ: the evaluator's equations, as rules for simp. -/
namespace PV
open PySem L2
def asI : PyData → Option Int
  | .int i => some i
  | _ => none
theorem asI_N (n : Nat) : asI (N n) = some (n : Int) := Eq.trans rfl (Eq.refl _)
theorem asI_i (i : Int) : asI (.int i) = some i := Eq.trans rfl (Eq.refl _)
def blk (n : Nat) (b : Ss) : Sl → Option Out := fun ρ => evSs n b ρ
def tst (c : E) : Sl → Option Bool := fun ρ => evT c ρ
theorem wh_true {c : Sl → Option Bool} {f : Sl → Option Out} {n : Nat} {ρ ρ2 : Sl} (h1 : c ρ = some true) (h2 : f ρ = some (.nx ρ2)) : whileGo c f (n + 1) ρ = whileGo c f n ρ2 := by rw [whileGo, h1, h2]
theorem wh_rt {c : Sl → Option Bool} {f : Sl → Option Out} {n : Nat} {ρ : Sl} {r : R} (h1 : c ρ = some true) (h2 : f ρ = some (.rt r)) : whileGo c f (n + 1) ρ = some (.rt r) := by rw [whileGo, h1, h2]
theorem wh_false {c : Sl → Option Bool} {f : Sl → Option Out} {n : Nat} {ρ : Sl} (h1 : c ρ = some false) : whileGo c f (n + 1) ρ = some (.nx ρ) := by rw [whileGo, h1]
theorem fr_nil {g : G} {f : Sl → Option Out} {ρ : Sl} : forGo g f [] ρ = some (.nx ρ) := Eq.trans rfl (Eq.refl _)
theorem fr_nx {g : G} {f : Sl → Option Out} {d : PyData} {ds : List PyData} {ρ ρ1 ρ2 : Sl} (h1 : asg g d ρ = some ρ1) (h2 : f ρ1 = some (.nx ρ2)) : forGo g f (d :: ds) ρ = forGo g f ds ρ2 := by rw [forGo, h1]; show (match f ρ1 with | some (.nx ρ2) => forGo g f ds ρ2 | some (.ct ρ2) => forGo g f ds ρ2 | some (.bk ρ2) => some (.nx ρ2) | some (.rt r) => some (.rt r) | none => none) = _; rw [h2]
theorem fr_rt {g : G} {f : Sl → Option Out} {d : PyData} {ds : List PyData} {ρ ρ1 : Sl} {r : R} (h1 : asg g d ρ = some ρ1) (h2 : f ρ1 = some (.rt r)) : forGo g f (d :: ds) ρ = some (.rt r) := by rw [forGo, h1]; show (match f ρ1 with | some (.nx ρ2) => forGo g f ds ρ2 | some (.ct ρ2) => forGo g f ds ρ2 | some (.bk ρ2) => some (.nx ρ2) | some (.rt r) => some (.rt r) | none => none) = _; rw [h2]
theorem q_bind {α β : Type} {a : α} {f : α → Option β} : (some a).bind f = f a := Eq.trans rfl (Eq.refl _)
theorem q_bindn {α β : Type} {f : α → Option β} : (none : Option α).bind f = none := Eq.trans rfl (Eq.refl _)
theorem q_map {α β : Type} {a : α} {f : α → β} : (some a).map f = some (f a) := Eq.trans rfl (Eq.refl _)
theorem q_mapn {α β : Type} {f : α → β} : (none : Option α).map f = none := Eq.trans rfl (Eq.refl _)
theorem q_one : PyData.int 1 = N 1 := Eq.trans rfl (Eq.refl _)
theorem q_zero : PyData.int 0 = N 0 := Eq.trans rfl (Eq.refl _)
theorem q_evT : evT e ρ = (evE e true ρ).bind fun r => (match r.2 with
  | .bool k => some k
  | _ => none) := Eq.trans rfl (Eq.refl _)
theorem q_own : own ρ i = (match ρ[i]? with
  | some (some (true, .list ds)) => some ds
  | _ => none) := Eq.trans rfl (Eq.refl _)
theorem q_ret : evRet (.v i) ρ = (match ρ[i]? with
  | some (some r) => some r
  | _ => none) := Eq.trans rfl (Eq.refl _)
theorem q_wipeR_1 : wipeR ρ ([]) = (ρ) := Eq.trans rfl (Eq.refl _)
theorem q_wipeR_2 : wipeR ρ (v :: vs) = ((wipeR ρ vs).set v none) := Eq.trans rfl (Eq.refl _)
theorem q_asg_1 : asg (.nm i) (d) (ρ) = (some (ρ.set i (some (false, d)))) := Eq.trans rfl (Eq.refl _)
theorem q_asg_2 : asg (.two a b) (.tuple [x, y]) (ρ) = ((asg a x ρ).bind fun ρ1 => asg b y ρ1) := Eq.trans rfl (Eq.refl _)
theorem q_asg_3 : asg (.thr a b c) (.tuple [x, y, z]) (ρ) = ((asg a x ρ).bind fun ρ1 => (asg b y ρ1).bind fun ρ2 => asg c z ρ2) := Eq.trans rfl (Eq.refl _)
theorem q_asg_4 : asg (.fou a b c d) (.tuple [x, y, z, u]) (ρ) = ((asg a x ρ).bind fun ρ1 => (asg b y ρ1).bind fun ρ2 => (asg c z ρ2).bind fun ρ3 => asg d u ρ3) := Eq.trans rfl (Eq.refl _)
theorem q_asg_5 : asg (.two a b) (.list [x, y]) (ρ) = ((asg a x ρ).bind fun ρ1 => asg b y ρ1) := Eq.trans rfl (Eq.refl _)
theorem q_asg_6 : asg (.thr a b c) (.list [x, y, z]) (ρ) = ((asg a x ρ).bind fun ρ1 => (asg b y ρ1).bind fun ρ2 => asg c z ρ2) := Eq.trans rfl (Eq.refl _)
theorem q_asg_7 : asg (.fou a b c d) (.list [x, y, z, u]) (ρ) = ((asg a x ρ).bind fun ρ1 => (asg b y ρ1).bind fun ρ2 => (asg c z ρ2).bind fun ρ3 => asg d u ρ3) := Eq.trans rfl (Eq.refl _)
theorem q_asgR_1 : asgR (.nm i) (r) (ρ) = (some (ρ.set i (some r))) := Eq.trans rfl (Eq.refl _)
theorem q_ownedArg_1 : ownedArg ρ (.v i) = (match ρ[i]? with
      | some (some (true, _)) => true
      | _ => false) := Eq.trans rfl (Eq.refl _)
theorem q_ownedArgs_1 : ownedArgs ρ (.nil) = (false) := Eq.trans rfl (Eq.refl _)
theorem q_ownedArgs_2 : ownedArgs ρ (.cons e es) = (ownedArg ρ e || ownedArgs ρ es) := Eq.trans rfl (Eq.refl _)
theorem q_itemsOf_1 : itemsOf (.list ds) = (some ds) := Eq.trans rfl (Eq.refl _)
theorem q_itemsOf_2 : itemsOf (.tuple ds) = (some ds) := Eq.trans rfl (Eq.refl _)
theorem q_evE_1 : evE (.v i) (b) (ρ) = (match ρ[i]? with
      | some (some (fl, d)) => if fl && !b then none else some (false, d)
      | _ => none) := Eq.trans rfl (Eq.refl _)
theorem q_evE_2 : evE (.c d) (u0) (u1) = (some (false, d)) := Eq.trans rfl (Eq.refl _)
theorem q_evE_3 : evE (.bin o x y) (u0) (ρ) = ((evE x true ρ).bind fun r => (evE y true ρ).bind fun s => evBin o r.2 s.2) := Eq.trans rfl (Eq.refl _)
theorem q_evE_4 : evE (.neg x) (u0) (ρ) = ((evE x true ρ).bind fun r => evNeg r.2) := Eq.trans rfl (Eq.refl _)
theorem q_evE_5 : evE (.cmp o x y) (u0) (ρ) = ((evE x true ρ).bind fun r => (evE y true ρ).bind fun s => (evCmp o r.2 s.2).map fun k => (false, .bool k)) := Eq.trans rfl (Eq.refl _)
theorem q_evE_6 : evE (.chain o p x y z) (u0) (ρ) = ((evE x true ρ).bind fun r => (evE y true ρ).bind fun s => (evCmp o r.2 s.2).bind fun k => match k with
      | false => some (false, .bool false)
      | true => (evE z true ρ).bind fun t => (evCmp p s.2 t.2).map fun k => (false, .bool k)) := Eq.trans rfl (Eq.refl _)
theorem q_evE_7 : evE (.and x y) (b) (ρ) = ((evE x true ρ).bind fun r => match r.2 with
      | .bool true => evE y b ρ
      | .bool false => some (false, .bool false)
      | _ => none) := Eq.trans rfl (Eq.refl _)
theorem q_evE_8 : evE (.or x y) (b) (ρ) = ((evE x true ρ).bind fun r => match r.2 with
      | .bool false => evE y b ρ
      | .bool true => some (false, .bool true)
      | _ => none) := Eq.trans rfl (Eq.refl _)
theorem q_evE_9 : evE (.not x) (u0) (ρ) = ((evE x true ρ).bind fun r => match r.2 with
      | .bool k => some (false, .bool (!k))
      | _ => none) := Eq.trans rfl (Eq.refl _)
theorem q_evE_10 : evE (.ite c x y) (b) (ρ) = ((evE c true ρ).bind fun r => match r.2 with
      | .bool true => evE x b ρ
      | .bool false => evE y b ρ
      | _ => none) := Eq.trans rfl (Eq.refl _)
theorem q_evE_11 : evE (.tup es) (u0) (ρ) = ((evEs es false ρ).bind fun ds => if lenOk ds.length then some (false, .tuple ds) else none) := Eq.trans rfl (Eq.refl _)
theorem q_evE_12 : evE (.lst es) (u0) (ρ) = ((evEs es false ρ).bind fun ds => if lenOk ds.length then some (true, .list ds) else none) := Eq.trans rfl (Eq.refl _)
theorem q_evE_13 : evE (.ix x i) (u0) (ρ) = ((evE x true ρ).bind fun r => (evE i true ρ).bind fun s => evIx r.2 s.2) := Eq.trans rfl (Eq.refl _)
theorem q_evE_14 : evE (.sl x lo hi) (u0) (ρ) = ((evE x true ρ).bind fun r => (evP lo ρ).bind fun l => (evP hi ρ).bind fun h => evSl r.2 l h) := Eq.trans rfl (Eq.refl _)
theorem q_evE_15 : evE (.rev x) (u0) (ρ) = ((evE x true ρ).bind fun r => match r.2 with
      | .list ds => some (true, .list ds.reverse)
      | .tuple ds => some (false, .tuple ds.reverse)
      | _ => none) := Eq.trans rfl (Eq.refl _)
theorem q_evE_16 : evE (.rngl es) (u0) (ρ) = ((evEs es true ρ).bind fun ds => (evRng ds).map fun l => (true, .list l)) := Eq.trans rfl (Eq.refl _)
theorem q_evE_17 : evE (.call f es) (u0) (ρ) = (if ownedArgs ρ es then (evEs es true ρ).bind fun ds => (f ds).bind fun r => if nolistR r then some r else none else (evEs es false ρ).bind f) := Eq.trans rfl (Eq.refl _)
theorem q_evE_18 : evE (.bi b es) (u0) (ρ) = ((evEs es true ρ).bind fun ds => evBI b ds) := Eq.trans rfl (Eq.refl _)
theorem q_evE_19 : evE (.comp ow g it c elt) (u0) (ρ) = ((evI it true ρ).bind fun ds => (compGo (fun d => (asg g d (wipeR ρ ow)).bind fun ρ2 => (evC c ρ2).bind fun k => match k with
        | false => some none
        | true => (evE elt false ρ2).map fun r => some r.2) ds).map fun ys => (true, .list ys)) := Eq.trans rfl (Eq.refl _)
theorem q_evE_20 : evE (.comp2 ow g it c own1 g1 it1 c1 elt) (u0) (ρ) = ((evI it true ρ).bind fun ds => (compGo2 (fun d => (asg g d (wipeR ρ ow)).bind fun ρ2 => (evC c ρ2).bind fun k => match k with
        | false => some []
        | true => (evI it1 true ρ2).bind fun ds1 => compGo (fun d1 => (asg g1 d1 (wipeR ρ2 own1)).bind fun ρ3 => (evC c1 ρ3).bind fun k => match k with
          | false => some none
          | true => (evE elt false ρ3).map fun r => some r.2) ds1) ds).bind fun ys => if lenOk ys.length then some (true, .list ys) else none) := Eq.trans rfl (Eq.refl _)
theorem q_evEs_1 : evEs (.nil) (u0) (u1) = (some []) := Eq.trans rfl (Eq.refl _)
theorem q_evEs_2 : evEs (.cons e es) (b) (ρ) = ((evE e b ρ).bind fun r => (evEs es b ρ).map fun ds => r.2 :: ds) := Eq.trans rfl (Eq.refl _)
theorem q_evP_1 : evP (.no) (u0) = (some none) := Eq.trans rfl (Eq.refl _)
theorem q_evP_2 : evP (.yes e) (ρ) = ((evE e true ρ).bind fun r => (asI r.2).bind fun i => (some (some i))) := by
  rw [evP]
  congr 1
  funext r
  obtain ⟨b, d⟩ := r
  cases d <;> rfl
theorem q_evC_1 : evC (.no) (u0) = (some true) := Eq.trans rfl (Eq.refl _)
theorem q_evC_2 : evC (.yes e) (ρ) = ((evE e true ρ).bind fun r => match r.2 with
      | .bool k => some k
      | _ => none) := Eq.trans rfl (Eq.refl _)
theorem q_evI_1 : evI (.rng es) (u0) (ρ) = ((evEs es true ρ).bind evRng) := Eq.trans rfl (Eq.refl _)
theorem q_evI_2 : evI (.seq e) (b) (ρ) = ((evE e b ρ).bind fun r => itemsOf r.2) := Eq.trans rfl (Eq.refl _)
theorem q_evRet_1 : evRet (.v i) (ρ) = (match ρ[i]? with
      | some (some r) => some r
      | _ => none) := Eq.trans rfl (Eq.refl _)
theorem q_evS_1 : evS n (.asg g e) (ρ) = ((evE e false ρ).bind fun r => (asgR g r ρ).map .nx) := Eq.trans rfl (Eq.refl _)
theorem q_evS_2 : evS n (.asgs i e) (ρ) = ((evE e false ρ).map fun r => .nx (ρ.set i (some (false, r.2)))) := Eq.trans rfl (Eq.refl _)
theorem q_evS_3 : evS n (.par i j a b) (ρ) = ((evE a false ρ).bind fun r => (evE b false ρ).map fun s => .nx ((ρ.set i (some r)).set j (some s))) := Eq.trans rfl (Eq.refl _)
theorem q_evS_4 : evS n (.par3 i j l a b d) (ρ) = ((evE a false ρ).bind fun r => (evE b false ρ).bind fun s => (evE d false ρ).map fun t => .nx (((ρ.set i (some r)).set j (some s)).set l (some t))) := Eq.trans rfl (Eq.refl _)
theorem q_evS_5 : evS n (.app i e) (ρ) = ((own ρ i).bind fun ds => (evE e false ρ).bind fun r => if lenOk (ds.length + 1) then some (.nx (ρ.set i (some (true, .list (ds ++ [r.2]))))) else none) := Eq.trans rfl (Eq.refl _)
theorem q_evS_6 : evS n (.ext i e) (ρ) = ((own ρ i).bind fun ds => (evE e false ρ).bind fun r => match r.2 with
      | .list es => if lenOk (ds.length + es.length) then some (.nx (ρ.set i (some (true, .list (ds ++ es))))) else none
      | .tuple es => if lenOk (ds.length + es.length) then some (.nx (ρ.set i (some (true, .list (ds ++ es))))) else none
      | _ => none) := Eq.trans rfl (Eq.refl _)
theorem q_evS_7 : evS n (.ins i a e) (ρ) = ((own ρ i).bind fun ds => (evE a true ρ).bind fun k => (evE e false ρ).bind fun r => (asI k.2).bind fun j => (if decide (0 ≤ j) && decide (j < 1000000000) && lenOk (ds.length + 1) then some (.nx (ρ.set i (some (true, .list (ds.take j.toNat ++ [r.2] ++ ds.drop j.toNat))))) else none)) := by
  rw [evS]
  congr 1
  funext ds
  congr 1
  funext k
  congr 1
  funext r
  obtain ⟨b, d⟩ := k
  cases d <;> rfl
theorem q_evS_8 : evS n (.put i a e) (ρ) = ((evE e false ρ).bind fun r => (own ρ i).bind fun ds => (evE a true ρ).bind fun k => (asI k.2).bind fun j => ((putD ds j r.2).map fun ds' => .nx (ρ.set i (some (true, .list ds'))))) := by
  rw [evS]
  congr 1
  funext r
  congr 1
  funext ds
  congr 1
  funext k
  obtain ⟨b, d⟩ := k
  cases d <;> rfl
theorem q_evS_9 : evS n (.pop g i) (ρ) = ((own ρ i).bind fun ds => match ds.getLast? with
      | none => none
      | some d => (asg g d (ρ.set i (some (true, .list ds.dropLast)))).map .nx) := Eq.trans rfl (Eq.refl _)
theorem q_evS_10 : evS n (.ret e) (ρ) = ((evRet e ρ).map .rt) := Eq.trans rfl (Eq.refl _)
theorem q_evS_11 : evS n (.retN) (u0) = (some (.rt (false, .none))) := Eq.trans rfl (Eq.refl _)
theorem q_evS_12 : evS n (.ite c a b) (ρ) = ((evT c ρ).bind fun k => match k with
      | true => evSs n a ρ
      | false => evSs n b ρ) := Eq.trans rfl (Eq.refl _)
theorem q_evS_13 : evS n (.for_ g it b) (ρ) = ((evI it false ρ).bind fun ds => forGo g (blk n b) ds ρ) := Eq.trans rfl (Eq.refl _)
theorem q_evS_14 : evS n (.while_ c b) (ρ) = (whileGo (tst c) (blk n b) n ρ) := Eq.trans rfl (Eq.refl _)
theorem q_evS_15 : evS n (.share i) (ρ) = (match ρ[i]? with
      | some (some (true, d)) => some (.nx (ρ.set i (some (false, d))))
      | _ => some (.nx ρ)) := Eq.trans rfl (Eq.refl _)
theorem q_evS_16 : evS n (.never) (u0) = (none) := Eq.trans rfl (Eq.refl _)
theorem q_evSs_1 : evSs n (.nil) (ρ) = (some (.nx ρ)) := Eq.trans rfl (Eq.refl _)
theorem q_evSs_2 : evSs n (.cons s ss) (ρ) = (match evS n s ρ with
      | some (.nx ρ2) => evSs n ss ρ2
      | o => o) := Eq.trans rfl (Eq.refl _)
theorem q_oa_0 : ownedArg ρ (.c d) = false := Eq.trans rfl (Eq.refl _)
theorem q_rt_0 : evRet (.c d) ρ = evE (.c d) false ρ := Eq.trans rfl (Eq.refl _)
theorem q_oa_1 : ownedArg ρ (.bin o x y) = false := Eq.trans rfl (Eq.refl _)
theorem q_rt_1 : evRet (.bin o x y) ρ = evE (.bin o x y) false ρ := Eq.trans rfl (Eq.refl _)
theorem q_oa_2 : ownedArg ρ (.neg x) = false := Eq.trans rfl (Eq.refl _)
theorem q_rt_2 : evRet (.neg x) ρ = evE (.neg x) false ρ := Eq.trans rfl (Eq.refl _)
theorem q_oa_3 : ownedArg ρ (.cmp o x y) = false := Eq.trans rfl (Eq.refl _)
theorem q_rt_3 : evRet (.cmp o x y) ρ = evE (.cmp o x y) false ρ := Eq.trans rfl (Eq.refl _)
theorem q_oa_4 : ownedArg ρ (.chain o p x y z) = false := Eq.trans rfl (Eq.refl _)
theorem q_rt_4 : evRet (.chain o p x y z) ρ = evE (.chain o p x y z) false ρ := Eq.trans rfl (Eq.refl _)
theorem q_oa_5 : ownedArg ρ (.and x y) = false := Eq.trans rfl (Eq.refl _)
theorem q_rt_5 : evRet (.and x y) ρ = evE (.and x y) false ρ := Eq.trans rfl (Eq.refl _)
theorem q_oa_6 : ownedArg ρ (.or x y) = false := Eq.trans rfl (Eq.refl _)
theorem q_rt_6 : evRet (.or x y) ρ = evE (.or x y) false ρ := Eq.trans rfl (Eq.refl _)
theorem q_oa_7 : ownedArg ρ (.not x) = false := Eq.trans rfl (Eq.refl _)
theorem q_rt_7 : evRet (.not x) ρ = evE (.not x) false ρ := Eq.trans rfl (Eq.refl _)
theorem q_oa_8 : ownedArg ρ (.ite x y z) = false := Eq.trans rfl (Eq.refl _)
theorem q_rt_8 : evRet (.ite x y z) ρ = evE (.ite x y z) false ρ := Eq.trans rfl (Eq.refl _)
theorem q_oa_9 : ownedArg ρ (.tup es) = false := Eq.trans rfl (Eq.refl _)
theorem q_rt_9 : evRet (.tup es) ρ = evE (.tup es) false ρ := Eq.trans rfl (Eq.refl _)
theorem q_oa_10 : ownedArg ρ (.lst es) = false := Eq.trans rfl (Eq.refl _)
theorem q_rt_10 : evRet (.lst es) ρ = evE (.lst es) false ρ := Eq.trans rfl (Eq.refl _)
theorem q_oa_11 : ownedArg ρ (.ix x y) = false := Eq.trans rfl (Eq.refl _)
theorem q_rt_11 : evRet (.ix x y) ρ = evE (.ix x y) false ρ := Eq.trans rfl (Eq.refl _)
theorem q_oa_12 : ownedArg ρ (.sl x l h) = false := Eq.trans rfl (Eq.refl _)
theorem q_rt_12 : evRet (.sl x l h) ρ = evE (.sl x l h) false ρ := Eq.trans rfl (Eq.refl _)
theorem q_oa_13 : ownedArg ρ (.rev x) = false := Eq.trans rfl (Eq.refl _)
theorem q_rt_13 : evRet (.rev x) ρ = evE (.rev x) false ρ := Eq.trans rfl (Eq.refl _)
theorem q_oa_14 : ownedArg ρ (.rngl es) = false := Eq.trans rfl (Eq.refl _)
theorem q_rt_14 : evRet (.rngl es) ρ = evE (.rngl es) false ρ := Eq.trans rfl (Eq.refl _)
theorem q_oa_15 : ownedArg ρ (.call f es) = false := Eq.trans rfl (Eq.refl _)
theorem q_rt_15 : evRet (.call f es) ρ = evE (.call f es) false ρ := Eq.trans rfl (Eq.refl _)
theorem q_oa_16 : ownedArg ρ (.bi b es) = false := Eq.trans rfl (Eq.refl _)
theorem q_rt_16 : evRet (.bi b es) ρ = evE (.bi b es) false ρ := Eq.trans rfl (Eq.refl _)
theorem q_oa_17 : ownedArg ρ (.comp ow g it c x) = false := Eq.trans rfl (Eq.refl _)
theorem q_rt_17 : evRet (.comp ow g it c x) ρ = evE (.comp ow g it c x) false ρ := Eq.trans rfl (Eq.refl _)
theorem q_oa_18 : ownedArg ρ (.comp2 ow g it c ow1 g1 it1 c1 x) = false := Eq.trans rfl (Eq.refl _)
theorem q_rt_18 : evRet (.comp2 ow g it c ow1 g1 it1 c1 x) ρ = evE (.comp2 ow g it c ow1 g1 it1 c1 x) false ρ := Eq.trans rfl (Eq.refl _)
theorem q_ar_0 : asgR (.two a b) r ρ = asg (.two a b) r.2 ρ := Eq.trans rfl (Eq.refl _)
theorem q_ar_1 : asgR (.thr a b c) r ρ = asg (.thr a b c) r.2 ρ := Eq.trans rfl (Eq.refl _)
theorem q_ar_2 : asgR (.fou a b c d) r ρ = asg (.fou a b c d) r.2 ρ := Eq.trans rfl (Eq.refl _)
end PV

set_option Elab.async false
set_option linter.all false
set_option maxRecDepth 100000
set_option maxHeartbeats 4000000
/-! PVD: the draws that every law begins with. -/
namespace PV
open PySem L2
def ib_draws_1 : Ss :=
  (.cons (.ite (.cmp .gt (.v 4) (.c (.int 0))) (.cons (.app 2 (.bin .mod (.v 4) (.c (.int 1000003))))
  (.cons (.asgs 4 (.bin .fdiv (.v 4) (.c (.int 1000003))))
  .nil)) .nil)
  .nil)
def ib_draws_2 : Ss :=
  (.cons (.asgs 6 (.bin .mod (.bin .add (.bin .add (.bin .add (.bin .mul (.v 6) (.c (.int 69621))) (.bin .fdiv (.v 6) (.c (.int 65536)))) (.bin .mul (.c (.int 13)) (.v 5))) (.c (.int 5))) (.c (.int 2147483629))))
  (.cons (.app 2 (.bin .mod (.bin .fdiv (.v 6) (.c (.int 8))) (.c (.int 1000003))))
  .nil))
def ib_draws_3 : Ss :=
  (.cons (.asgs 4 (.bi .abs (.cons (.bi .int (.cons (.v 3) .nil)) .nil)))
  (.cons (.ite (.cmp .ge (.v 4) (.bin .pow (.c (.int 10)) (.c (.int 18)))) (.cons (.for_ (.nm 5) (.rng (.cons (.c (.int 60)) .nil)) ib_draws_1)
  .nil) (.cons (.asgs 6 (.bin .mod (.bin .add (.bin .add (.bin .mul (.v 4) (.c (.int 48271))) (.bin .mul (.c (.int 7)) (.bi .len (.cons (.v 2) .nil)))) (.c (.int 11))) (.c (.int 2147483647))))
  (.cons (.for_ (.nm 5) (.rng (.cons (.c (.int 4)) .nil)) ib_draws_2)
  .nil)))
  .nil))
def ib_draws_4 : Ss :=
  (.cons (.ite (.cmp .lt (.bi .len (.cons (.v 2) .nil)) (.v 1)) (.cons (.asgs 7 (.c (.int 0)))
  (.cons (.ite (.cmp .gt (.bi .len (.cons (.v 2) .nil)) (.c (.int 0))) (.cons (.asgs 7 (.ix (.v 2) (.bin .mod (.v 5) (.bi .len (.cons (.v 2) .nil)))))
  .nil) .nil)
  (.cons (.app 2 (.bin .mod (.bin .add (.bin .add (.bin .mul (.v 7) (.c (.int 16807))) (.bin .mul (.c (.int 31)) (.bi .len (.cons (.v 2) .nil)))) (.c (.int 17))) (.c (.int 1000003))))
  .nil))) .nil)
  .nil)
def ir_draws : Ss :=
  (.cons (.asg (.nm 2) (.lst .nil))
  (.cons (.for_ (.nm 3) (.seq (.sl (.v 0) .no (.yes (.c (.int 63))))) ib_draws_3)
  (.cons (.for_ (.nm 5) (.rng (.cons (.v 1) .nil)) ib_draws_4)
  (.cons (.ret (.sl (.v 2) .no (.yes (.v 1))))
  .nil))))
def f_draws : Fn := evDef FUEL 2 8 ir_draws
theorem d_18 : PyData.int 18 = N 18 := Eq.trans rfl (Eq.refl _)
theorem d_60 : PyData.int 60 = N 60 := Eq.trans rfl (Eq.refl _)
theorem d_1000003 : PyData.int 1000003 = N 1000003 := Eq.trans rfl (Eq.refl _)
theorem d_48271 : PyData.int 48271 = N 48271 := Eq.trans rfl (Eq.refl _)
theorem d_2147483647 : PyData.int 2147483647 = N 2147483647 := Eq.trans rfl (Eq.refl _)
theorem d_69621 : PyData.int 69621 = N 69621 := Eq.trans rfl (Eq.refl _)
theorem d_65536 : PyData.int 65536 = N 65536 := Eq.trans rfl (Eq.refl _)
theorem d_2147483629 : PyData.int 2147483629 = N 2147483629 := Eq.trans rfl (Eq.refl _)
theorem d_16807 : PyData.int 16807 = N 16807 := Eq.trans rfl (Eq.refl _)
theorem d_31 : PyData.int 31 = N 31 := Eq.trans rfl (Eq.refl _)
theorem d_17 : PyData.int 17 = N 17 := Eq.trans rfl (Eq.refl _)
theorem d_63 : PyData.int 63 = N 63 := Eq.trans rfl (Eq.refl _)

theorem n_pow {a b : Nat} (ha : a < 2 ^ 64) (hb : b ≤ 1000000) : evBin .pow (N a) (N b) = some (false, N (a ^ b)) := by
  have hm : powOk (a : Int) (b : Int) = true := by
    unfold powOk
    simp only [Int.natAbs_natCast, Nat.blt_eq, Bool.and_eq_true, decide_eq_true_eq]
    omega
  show (if powOk (a : Int) (b : Int) then some (false, PyData.int ((a : Int) ^ (b : Int).toNat)) else none) = some (false, PyData.int ((a ^ b : Nat) : Int))
  rw [if_pos hm, Int.toNat_natCast, Int.natCast_pow]
theorem n_abs (z : Int) : evBI .abs [.int z] = some (false, N z.natAbs) := by
  show some (false, PyData.int (if z < 0 then -z else z)) = some (false, PyData.int ((z.natAbs : Nat) : Int))
  congr 3
  split <;> omega
theorem n_int (z : Int) : evBI .int [.int z] = some (false, .int z) := Eq.trans rfl (Eq.refl _)
theorem cut_take (xs : List PyData) (k : Nat) : cutD xs none (some (k : Int)) = xs.take k := by
  unfold cutD
  rw [HT.sIx_none, HT.sIx_nat, List.drop_zero, Nat.sub_zero]
  rcases Nat.le_total k xs.length with h | h
  · rw [Nat.min_eq_left h]
  · rw [Nat.min_eq_right h, List.take_length, List.take_of_length_le h]
theorem n_slh (xs : List PyData) (k : Nat) : evSl (.list xs) none (some (k : Int)) = some (true, .list (xs.take k)) := by
  show some (true, PyData.list (cutD xs none (some (k : Int)))) = _
  rw [cut_take]
/-- all below -/
def Dr (l : List Nat) : Prop := ∀ x ∈ l, x < 1000003
theorem Dr.snoc {l : List Nat} {x : Nat} (h : Dr l) (hx : x < 1000003) : Dr (l ++ [x]) := fun y hy => by
  rcases List.mem_append.mp hy with hy | hy
  · exact h y hy
  · rw [List.mem_singleton.mp hy]; exact hx
abbrev sL (l : List Nat) : Option R := some (true, .list (l.map N))
theorem dr_1 {s0 s1 s3 s5 s6 s7 : Option R} {l : List Nat} {num : Nat} (hl : l.length ≤ 1000000) : ∃ l' num', blk FUEL ib_draws_1 [s0, s1, sL l, s3, sN num, s5, s6, s7] = some (.nx [s0, s1, sL l', s3, sN num', s5, s6, s7]) ∧ (Dr l → Dr l') ∧ l'.length ≤ l.length + 1 := by
  unfold blk ib_draws_1
  by_cases h : 0 < num
  · refine ⟨l ++ [num % 1000003], num / 1000003, ?_, fun h => h.snoc (Nat.mod_lt _ (by decide)), by simp⟩
    simp only [q_wipeR_1, q_wipeR_2, q_asg_1, q_asg_2, q_asg_3, q_asg_4, q_asgR_1, q_ownedArg_1, q_ownedArgs_1, q_ownedArgs_2, q_itemsOf_1, q_itemsOf_2, q_evE_1, q_evE_2, q_evE_3, q_evE_4, q_evE_5, q_evE_6, q_evE_7, q_evE_8, q_evE_9, q_evE_10, q_evE_11, q_evE_12, q_evE_13, q_evE_14, q_evE_15, q_evE_16, q_evE_17, q_evE_18, q_evE_19, q_evEs_1, q_evEs_2, q_evP_1, q_evP_2, q_evC_1, q_evC_2, q_evI_1, q_evI_2, q_evRet_1, q_evS_1, q_evS_2, q_evS_3, q_evS_4, q_evS_5, q_evS_6, q_evS_7, q_evS_8, q_evS_9, q_evS_10, q_evS_11, q_evS_12, q_evS_13, q_evS_14, q_evS_15, q_evS_16, q_evSs_1, q_evSs_2, q_oa_0, q_rt_0, q_oa_1, q_rt_1, q_oa_2, q_rt_2, q_oa_3, q_rt_3, q_oa_4, q_rt_4, q_oa_5, q_rt_5, q_oa_6, q_rt_6, q_oa_7, q_rt_7, q_oa_8, q_rt_8, q_oa_9, q_rt_9, q_oa_10, q_rt_10, q_oa_11, q_rt_11, q_oa_12, q_rt_12, q_oa_13, q_rt_13, q_oa_14, q_rt_14, q_oa_15, q_rt_15, q_oa_16, q_rt_16, q_oa_17, q_rt_17, q_ar_0, q_ar_1, q_ar_2, asI_N, asI_i, q_l2, q_l3, q_l4, q_l5, q_l6, q_l7, q_l8, q_l9, q_l10, q_l11, q_l12, q_l13, q_ret, q_bind, q_bindn, q_map, q_mapn, q_one, q_zero, q_evT, q_own, evNeg, startR, List.getElem?_cons_succ, List.getElem?_cons_zero, List.set_cons_succ, List.set_cons_zero, List.map_cons, List.map_nil, List.replicate, List.length_cons, List.length_nil, List.append_eq, List.nil_append, List.cons_append, Bool.and_true, Bool.true_and, Bool.and_false, Bool.false_and, Bool.not_true, Bool.not_false, if_true, if_false, reduceCtorEq, Nat.reduceSub, Nat.reduceAdd, Nat.reduceLeDiff, Bool.false_eq_true, Bool.or_false, Bool.false_or, ite_true, ite_false, n_add, lenOk_0, lenOk_1, lenOk_2, lenOk_3, lenOk_4, lenOk_5, lenOk_6, lenOk_7, lenOk_8, d_18, d_60, d_1000003, d_48271, d_2147483647, d_69621, d_65536, d_2147483629, d_16807, d_31, d_17, d_63, n_gt, h, decide_true, n_mod (show 0 < 1000003 by decide)]
    rw [if_pos (lenOk_of (by rw [List.length_map]; omega))]
    simp only [q_wipeR_1, q_wipeR_2, q_asg_1, q_asg_2, q_asg_3, q_asg_4, q_asgR_1, q_ownedArg_1, q_ownedArgs_1, q_ownedArgs_2, q_itemsOf_1, q_itemsOf_2, q_evE_1, q_evE_2, q_evE_3, q_evE_4, q_evE_5, q_evE_6, q_evE_7, q_evE_8, q_evE_9, q_evE_10, q_evE_11, q_evE_12, q_evE_13, q_evE_14, q_evE_15, q_evE_16, q_evE_17, q_evE_18, q_evE_19, q_evEs_1, q_evEs_2, q_evP_1, q_evP_2, q_evC_1, q_evC_2, q_evI_1, q_evI_2, q_evRet_1, q_evS_1, q_evS_2, q_evS_3, q_evS_4, q_evS_5, q_evS_6, q_evS_7, q_evS_8, q_evS_9, q_evS_10, q_evS_11, q_evS_12, q_evS_13, q_evS_14, q_evS_15, q_evS_16, q_evSs_1, q_evSs_2, q_oa_0, q_rt_0, q_oa_1, q_rt_1, q_oa_2, q_rt_2, q_oa_3, q_rt_3, q_oa_4, q_rt_4, q_oa_5, q_rt_5, q_oa_6, q_rt_6, q_oa_7, q_rt_7, q_oa_8, q_rt_8, q_oa_9, q_rt_9, q_oa_10, q_rt_10, q_oa_11, q_rt_11, q_oa_12, q_rt_12, q_oa_13, q_rt_13, q_oa_14, q_rt_14, q_oa_15, q_rt_15, q_oa_16, q_rt_16, q_oa_17, q_rt_17, q_ar_0, q_ar_1, q_ar_2, asI_N, asI_i, q_l2, q_l3, q_l4, q_l5, q_l6, q_l7, q_l8, q_l9, q_l10, q_l11, q_l12, q_l13, q_ret, q_bind, q_bindn, q_map, q_mapn, q_one, q_zero, q_evT, q_own, evNeg, startR, List.getElem?_cons_succ, List.getElem?_cons_zero, List.set_cons_succ, List.set_cons_zero, List.map_cons, List.map_nil, List.replicate, List.length_cons, List.length_nil, List.append_eq, List.nil_append, List.cons_append, Bool.and_true, Bool.true_and, Bool.and_false, Bool.false_and, Bool.not_true, Bool.not_false, if_true, if_false, reduceCtorEq, Nat.reduceSub, Nat.reduceAdd, Nat.reduceLeDiff, Bool.false_eq_true, Bool.or_false, Bool.false_or, ite_true, ite_false, n_add, lenOk_0, lenOk_1, lenOk_2, lenOk_3, lenOk_4, lenOk_5, lenOk_6, lenOk_7, lenOk_8, d_18, d_60, d_1000003, d_48271, d_2147483647, d_69621, d_65536, d_2147483629, d_16807, d_31, d_17, d_63, n_div (show 0 < 1000003 by decide) (show 1000003 < 2 ^ 64 by decide), List.map_append, sL]
  · refine ⟨l, num, ?_, fun h => h, by omega⟩
    simp only [q_wipeR_1, q_wipeR_2, q_asg_1, q_asg_2, q_asg_3, q_asg_4, q_asgR_1, q_ownedArg_1, q_ownedArgs_1, q_ownedArgs_2, q_itemsOf_1, q_itemsOf_2, q_evE_1, q_evE_2, q_evE_3, q_evE_4, q_evE_5, q_evE_6, q_evE_7, q_evE_8, q_evE_9, q_evE_10, q_evE_11, q_evE_12, q_evE_13, q_evE_14, q_evE_15, q_evE_16, q_evE_17, q_evE_18, q_evE_19, q_evEs_1, q_evEs_2, q_evP_1, q_evP_2, q_evC_1, q_evC_2, q_evI_1, q_evI_2, q_evRet_1, q_evS_1, q_evS_2, q_evS_3, q_evS_4, q_evS_5, q_evS_6, q_evS_7, q_evS_8, q_evS_9, q_evS_10, q_evS_11, q_evS_12, q_evS_13, q_evS_14, q_evS_15, q_evS_16, q_evSs_1, q_evSs_2, q_oa_0, q_rt_0, q_oa_1, q_rt_1, q_oa_2, q_rt_2, q_oa_3, q_rt_3, q_oa_4, q_rt_4, q_oa_5, q_rt_5, q_oa_6, q_rt_6, q_oa_7, q_rt_7, q_oa_8, q_rt_8, q_oa_9, q_rt_9, q_oa_10, q_rt_10, q_oa_11, q_rt_11, q_oa_12, q_rt_12, q_oa_13, q_rt_13, q_oa_14, q_rt_14, q_oa_15, q_rt_15, q_oa_16, q_rt_16, q_oa_17, q_rt_17, q_ar_0, q_ar_1, q_ar_2, asI_N, asI_i, q_l2, q_l3, q_l4, q_l5, q_l6, q_l7, q_l8, q_l9, q_l10, q_l11, q_l12, q_l13, q_ret, q_bind, q_bindn, q_map, q_mapn, q_one, q_zero, q_evT, q_own, evNeg, startR, List.getElem?_cons_succ, List.getElem?_cons_zero, List.set_cons_succ, List.set_cons_zero, List.map_cons, List.map_nil, List.replicate, List.length_cons, List.length_nil, List.append_eq, List.nil_append, List.cons_append, Bool.and_true, Bool.true_and, Bool.and_false, Bool.false_and, Bool.not_true, Bool.not_false, if_true, if_false, reduceCtorEq, Nat.reduceSub, Nat.reduceAdd, Nat.reduceLeDiff, Bool.false_eq_true, Bool.or_false, Bool.false_or, ite_true, ite_false, n_add, lenOk_0, lenOk_1, lenOk_2, lenOk_3, lenOk_4, lenOk_5, lenOk_6, lenOk_7, lenOk_8, d_18, d_60, d_1000003, d_48271, d_2147483647, d_69621, d_65536, d_2147483629, d_16807, d_31, d_17, d_63, n_gt, h, decide_false]
theorem dr_2 {s0 s1 s3 s4 s7 : Option R} {l : List Nat} {mixed k : Nat} (hl : l.length ≤ 1000000) (hk : k < 1000) (hm : mixed < 2 ^ 40) : ∃ l' mixed', blk FUEL ib_draws_2 [s0, s1, sL l, s3, s4, sN k, sN mixed, s7] = some (.nx [s0, s1, sL l', s3, s4, sN k, sN mixed', s7]) ∧ (Dr l → Dr l') ∧ l'.length ≤ l.length + 1 ∧ mixed' < 2 ^ 40 := by
  unfold blk ib_draws_2
  have hmm := Nat.mod_lt (mixed * 69621 + mixed / 65536 + 13 * k + 5) (show 0 < 2147483629 by decide)
  generalize hq : (mixed * 69621 + mixed / 65536 + 13 * k + 5) % 2147483629 = q at hmm
  refine ⟨l ++ [q / 8 % 1000003], q, ?_, fun h => h.snoc (Nat.mod_lt _ (by decide)), by simp, by omega⟩
  simp only [q_wipeR_1, q_wipeR_2, q_asg_1, q_asg_2, q_asg_3, q_asg_4, q_asgR_1, q_ownedArg_1, q_ownedArgs_1, q_ownedArgs_2, q_itemsOf_1, q_itemsOf_2, q_evE_1, q_evE_2, q_evE_3, q_evE_4, q_evE_5, q_evE_6, q_evE_7, q_evE_8, q_evE_9, q_evE_10, q_evE_11, q_evE_12, q_evE_13, q_evE_14, q_evE_15, q_evE_16, q_evE_17, q_evE_18, q_evE_19, q_evEs_1, q_evEs_2, q_evP_1, q_evP_2, q_evC_1, q_evC_2, q_evI_1, q_evI_2, q_evRet_1, q_evS_1, q_evS_2, q_evS_3, q_evS_4, q_evS_5, q_evS_6, q_evS_7, q_evS_8, q_evS_9, q_evS_10, q_evS_11, q_evS_12, q_evS_13, q_evS_14, q_evS_15, q_evS_16, q_evSs_1, q_evSs_2, q_oa_0, q_rt_0, q_oa_1, q_rt_1, q_oa_2, q_rt_2, q_oa_3, q_rt_3, q_oa_4, q_rt_4, q_oa_5, q_rt_5, q_oa_6, q_rt_6, q_oa_7, q_rt_7, q_oa_8, q_rt_8, q_oa_9, q_rt_9, q_oa_10, q_rt_10, q_oa_11, q_rt_11, q_oa_12, q_rt_12, q_oa_13, q_rt_13, q_oa_14, q_rt_14, q_oa_15, q_rt_15, q_oa_16, q_rt_16, q_oa_17, q_rt_17, q_ar_0, q_ar_1, q_ar_2, asI_N, asI_i, q_l2, q_l3, q_l4, q_l5, q_l6, q_l7, q_l8, q_l9, q_l10, q_l11, q_l12, q_l13, q_ret, q_bind, q_bindn, q_map, q_mapn, q_one, q_zero, q_evT, q_own, evNeg, startR, List.getElem?_cons_succ, List.getElem?_cons_zero, List.set_cons_succ, List.set_cons_zero, List.map_cons, List.map_nil, List.replicate, List.length_cons, List.length_nil, List.append_eq, List.nil_append, List.cons_append, Bool.and_true, Bool.true_and, Bool.and_false, Bool.false_and, Bool.not_true, Bool.not_false, if_true, if_false, reduceCtorEq, Nat.reduceSub, Nat.reduceAdd, Nat.reduceLeDiff, Bool.false_eq_true, Bool.or_false, Bool.false_or, ite_true, ite_false, n_add, lenOk_0, lenOk_1, lenOk_2, lenOk_3, lenOk_4, lenOk_5, lenOk_6, lenOk_7, lenOk_8, d_18, d_60, d_1000003, d_48271, d_2147483647, d_69621, d_65536, d_2147483629, d_16807, d_31, d_17, d_63, n_mul (show mixed < 2 ^ 64 by omega) (show 69621 < 2 ^ 64 by decide), n_div (show 0 < 65536 by decide) (show 65536 < 2 ^ 64 by decide), n_mul (show 13 < 2 ^ 64 by decide) (show k < 2 ^ 64 by omega), n_mod (show 0 < 2147483629 by decide), hq, n_div (show 0 < 8 by decide) (show 8 < 2 ^ 64 by decide), n_mod (show 0 < 1000003 by decide)]
  rw [if_pos (lenOk_of (by rw [List.length_map]; omega))]
  simp only [q_wipeR_1, q_wipeR_2, q_asg_1, q_asg_2, q_asg_3, q_asg_4, q_asgR_1, q_ownedArg_1, q_ownedArgs_1, q_ownedArgs_2, q_itemsOf_1, q_itemsOf_2, q_evE_1, q_evE_2, q_evE_3, q_evE_4, q_evE_5, q_evE_6, q_evE_7, q_evE_8, q_evE_9, q_evE_10, q_evE_11, q_evE_12, q_evE_13, q_evE_14, q_evE_15, q_evE_16, q_evE_17, q_evE_18, q_evE_19, q_evEs_1, q_evEs_2, q_evP_1, q_evP_2, q_evC_1, q_evC_2, q_evI_1, q_evI_2, q_evRet_1, q_evS_1, q_evS_2, q_evS_3, q_evS_4, q_evS_5, q_evS_6, q_evS_7, q_evS_8, q_evS_9, q_evS_10, q_evS_11, q_evS_12, q_evS_13, q_evS_14, q_evS_15, q_evS_16, q_evSs_1, q_evSs_2, q_oa_0, q_rt_0, q_oa_1, q_rt_1, q_oa_2, q_rt_2, q_oa_3, q_rt_3, q_oa_4, q_rt_4, q_oa_5, q_rt_5, q_oa_6, q_rt_6, q_oa_7, q_rt_7, q_oa_8, q_rt_8, q_oa_9, q_rt_9, q_oa_10, q_rt_10, q_oa_11, q_rt_11, q_oa_12, q_rt_12, q_oa_13, q_rt_13, q_oa_14, q_rt_14, q_oa_15, q_rt_15, q_oa_16, q_rt_16, q_oa_17, q_rt_17, q_ar_0, q_ar_1, q_ar_2, asI_N, asI_i, q_l2, q_l3, q_l4, q_l5, q_l6, q_l7, q_l8, q_l9, q_l10, q_l11, q_l12, q_l13, q_ret, q_bind, q_bindn, q_map, q_mapn, q_one, q_zero, q_evT, q_own, evNeg, startR, List.getElem?_cons_succ, List.getElem?_cons_zero, List.set_cons_succ, List.set_cons_zero, List.map_cons, List.map_nil, List.replicate, List.length_cons, List.length_nil, List.append_eq, List.nil_append, List.cons_append, Bool.and_true, Bool.true_and, Bool.and_false, Bool.false_and, Bool.not_true, Bool.not_false, if_true, if_false, reduceCtorEq, Nat.reduceSub, Nat.reduceAdd, Nat.reduceLeDiff, Bool.false_eq_true, Bool.or_false, Bool.false_or, ite_true, ite_false, n_add, lenOk_0, lenOk_1, lenOk_2, lenOk_3, lenOk_4, lenOk_5, lenOk_6, lenOk_7, lenOk_8, List.map_append, sL]
theorem dr_3 {s0 s1 j4 j5 j6 s7 : Option R} {l : List Nat} {z : Int} (hl : l.length ≤ 100000) : ∃ l' k4 k5 k6, blk FUEL ib_draws_3 [s0, s1, sL l, some (false, .int z), j4, j5, j6, s7] = some (.nx [s0, s1, sL l', some (false, .int z), k4, k5, k6, s7]) ∧ (Dr l → Dr l') ∧ l'.length ≤ l.length + 60 := by
  unfold blk ib_draws_3
  simp only [q_wipeR_1, q_wipeR_2, q_asg_1, q_asg_2, q_asg_3, q_asg_4, q_asgR_1, q_ownedArg_1, q_ownedArgs_1, q_ownedArgs_2, q_itemsOf_1, q_itemsOf_2, q_evE_1, q_evE_2, q_evE_3, q_evE_4, q_evE_5, q_evE_6, q_evE_7, q_evE_8, q_evE_9, q_evE_10, q_evE_11, q_evE_12, q_evE_13, q_evE_14, q_evE_15, q_evE_16, q_evE_17, q_evE_18, q_evE_19, q_evEs_1, q_evEs_2, q_evP_1, q_evP_2, q_evC_1, q_evC_2, q_evI_1, q_evI_2, q_evRet_1, q_evS_1, q_evS_2, q_evS_3, q_evS_4, q_evS_5, q_evS_6, q_evS_7, q_evS_8, q_evS_9, q_evS_10, q_evS_11, q_evS_12, q_evS_13, q_evS_14, q_evS_15, q_evS_16, q_evSs_1, q_evSs_2, q_oa_0, q_rt_0, q_oa_1, q_rt_1, q_oa_2, q_rt_2, q_oa_3, q_rt_3, q_oa_4, q_rt_4, q_oa_5, q_rt_5, q_oa_6, q_rt_6, q_oa_7, q_rt_7, q_oa_8, q_rt_8, q_oa_9, q_rt_9, q_oa_10, q_rt_10, q_oa_11, q_rt_11, q_oa_12, q_rt_12, q_oa_13, q_rt_13, q_oa_14, q_rt_14, q_oa_15, q_rt_15, q_oa_16, q_rt_16, q_oa_17, q_rt_17, q_ar_0, q_ar_1, q_ar_2, asI_N, asI_i, q_l2, q_l3, q_l4, q_l5, q_l6, q_l7, q_l8, q_l9, q_l10, q_l11, q_l12, q_l13, q_ret, q_bind, q_bindn, q_map, q_mapn, q_one, q_zero, q_evT, q_own, evNeg, startR, List.getElem?_cons_succ, List.getElem?_cons_zero, List.set_cons_succ, List.set_cons_zero, List.map_cons, List.map_nil, List.replicate, List.length_cons, List.length_nil, List.append_eq, List.nil_append, List.cons_append, Bool.and_true, Bool.true_and, Bool.and_false, Bool.false_and, Bool.not_true, Bool.not_false, if_true, if_false, reduceCtorEq, Nat.reduceSub, Nat.reduceAdd, Nat.reduceLeDiff, Bool.false_eq_true, Bool.or_false, Bool.false_or, ite_true, ite_false, n_add, lenOk_0, lenOk_1, lenOk_2, lenOk_3, lenOk_4, lenOk_5, lenOk_6, lenOk_7, lenOk_8, d_18, d_60, d_1000003, d_48271, d_2147483647, d_69621, d_65536, d_2147483629, d_16807, d_31, d_17, d_63, n_int, n_abs, n_pow (show 10 < 2 ^ 64 by decide) (show 18 ≤ 1000000 by decide), n_ge]
  by_cases h : 10 ^ 18 ≤ z.natAbs
  · simp only [q_wipeR_1, q_wipeR_2, q_asg_1, q_asg_2, q_asg_3, q_asg_4, q_asgR_1, q_ownedArg_1, q_ownedArgs_1, q_ownedArgs_2, q_itemsOf_1, q_itemsOf_2, q_evE_1, q_evE_2, q_evE_3, q_evE_4, q_evE_5, q_evE_6, q_evE_7, q_evE_8, q_evE_9, q_evE_10, q_evE_11, q_evE_12, q_evE_13, q_evE_14, q_evE_15, q_evE_16, q_evE_17, q_evE_18, q_evE_19, q_evEs_1, q_evEs_2, q_evP_1, q_evP_2, q_evC_1, q_evC_2, q_evI_1, q_evI_2, q_evRet_1, q_evS_1, q_evS_2, q_evS_3, q_evS_4, q_evS_5, q_evS_6, q_evS_7, q_evS_8, q_evS_9, q_evS_10, q_evS_11, q_evS_12, q_evS_13, q_evS_14, q_evS_15, q_evS_16, q_evSs_1, q_evSs_2, q_oa_0, q_rt_0, q_oa_1, q_rt_1, q_oa_2, q_rt_2, q_oa_3, q_rt_3, q_oa_4, q_rt_4, q_oa_5, q_rt_5, q_oa_6, q_rt_6, q_oa_7, q_rt_7, q_oa_8, q_rt_8, q_oa_9, q_rt_9, q_oa_10, q_rt_10, q_oa_11, q_rt_11, q_oa_12, q_rt_12, q_oa_13, q_rt_13, q_oa_14, q_rt_14, q_oa_15, q_rt_15, q_oa_16, q_rt_16, q_oa_17, q_rt_17, q_ar_0, q_ar_1, q_ar_2, asI_N, asI_i, q_l2, q_l3, q_l4, q_l5, q_l6, q_l7, q_l8, q_l9, q_l10, q_l11, q_l12, q_l13, q_ret, q_bind, q_bindn, q_map, q_mapn, q_one, q_zero, q_evT, q_own, evNeg, startR, List.getElem?_cons_succ, List.getElem?_cons_zero, List.set_cons_succ, List.set_cons_zero, List.map_cons, List.map_nil, List.replicate, List.length_cons, List.length_nil, List.append_eq, List.nil_append, List.cons_append, Bool.and_true, Bool.true_and, Bool.and_false, Bool.false_and, Bool.not_true, Bool.not_false, if_true, if_false, reduceCtorEq, Nat.reduceSub, Nat.reduceAdd, Nat.reduceLeDiff, Bool.false_eq_true, Bool.or_false, Bool.false_or, ite_true, ite_false, n_add, lenOk_0, lenOk_1, lenOk_2, lenOk_3, lenOk_4, lenOk_5, lenOk_6, lenOk_7, lenOk_8, d_18, d_60, d_1000003, d_48271, d_2147483647, d_69621, d_65536, d_2147483629, d_16807, d_31, d_17, d_63, h, decide_true, n_rng1 (show 60 ≤ 1000000 by decide)]
    obtain ⟨ρ', e, l', num', k5, rfl, hd, hn⟩ := forGo_do (g := .nm 5) (f := blk FUEL ib_draws_1) N (fun pre ρ => ∃ l' num' k5, ρ = [s0, s1, sL l', some (false, .int z), sN num', k5, j6, s7] ∧ (Dr l → Dr l') ∧ l'.length ≤ l.length + pre.length) (l := List.range 60) (ρ := [s0, s1, sL l, some (false, .int z), sN z.natAbs, j5, j6, s7]) ⟨l, z.natAbs, j5, rfl, fun h => h, by simp⟩ (by
      rintro pre x suf ρ hs ⟨l1, n1, k1, rfl, hd, hn⟩
      have hp : pre.length ≤ 60 := by
        have := congrArg List.length hs
        rw [List.length_range, List.length_append] at this
        omega
      obtain ⟨l2, n2, e, hd2, hn2⟩ := dr_1 (s0 := s0) (s1 := s1) (s3 := some (false, .int z)) (s5 := sN x) (s6 := j6) (s7 := s7) (l := l1) (num := n1) (by omega)
      exact ⟨_, _, rfl, e, l2, n2, sN x, rfl, fun h => hd2 (hd h), by rw [List.length_append]; simp only [List.length_cons, List.length_nil]; omega⟩)
    rw [e]
    exact ⟨l', sN num', k5, j6, rfl, hd, by rw [List.length_range] at hn; exact hn⟩
  · have h2 : z.natAbs < 10 ^ 18 := Nat.lt_of_not_le h
    have h3 : z.natAbs < 2 ^ 64 := Nat.lt_trans h2 (by decide)
    have hmm := Nat.mod_lt (z.natAbs * 48271 + 7 * (l.map N).length + 11) (show 0 < 2147483647 by decide)
    simp only [q_wipeR_1, q_wipeR_2, q_asg_1, q_asg_2, q_asg_3, q_asg_4, q_asgR_1, q_ownedArg_1, q_ownedArgs_1, q_ownedArgs_2, q_itemsOf_1, q_itemsOf_2, q_evE_1, q_evE_2, q_evE_3, q_evE_4, q_evE_5, q_evE_6, q_evE_7, q_evE_8, q_evE_9, q_evE_10, q_evE_11, q_evE_12, q_evE_13, q_evE_14, q_evE_15, q_evE_16, q_evE_17, q_evE_18, q_evE_19, q_evEs_1, q_evEs_2, q_evP_1, q_evP_2, q_evC_1, q_evC_2, q_evI_1, q_evI_2, q_evRet_1, q_evS_1, q_evS_2, q_evS_3, q_evS_4, q_evS_5, q_evS_6, q_evS_7, q_evS_8, q_evS_9, q_evS_10, q_evS_11, q_evS_12, q_evS_13, q_evS_14, q_evS_15, q_evS_16, q_evSs_1, q_evSs_2, q_oa_0, q_rt_0, q_oa_1, q_rt_1, q_oa_2, q_rt_2, q_oa_3, q_rt_3, q_oa_4, q_rt_4, q_oa_5, q_rt_5, q_oa_6, q_rt_6, q_oa_7, q_rt_7, q_oa_8, q_rt_8, q_oa_9, q_rt_9, q_oa_10, q_rt_10, q_oa_11, q_rt_11, q_oa_12, q_rt_12, q_oa_13, q_rt_13, q_oa_14, q_rt_14, q_oa_15, q_rt_15, q_oa_16, q_rt_16, q_oa_17, q_rt_17, q_ar_0, q_ar_1, q_ar_2, asI_N, asI_i, q_l2, q_l3, q_l4, q_l5, q_l6, q_l7, q_l8, q_l9, q_l10, q_l11, q_l12, q_l13, q_ret, q_bind, q_bindn, q_map, q_mapn, q_one, q_zero, q_evT, q_own, evNeg, startR, List.getElem?_cons_succ, List.getElem?_cons_zero, List.set_cons_succ, List.set_cons_zero, List.map_cons, List.map_nil, List.replicate, List.length_cons, List.length_nil, List.append_eq, List.nil_append, List.cons_append, Bool.and_true, Bool.true_and, Bool.and_false, Bool.false_and, Bool.not_true, Bool.not_false, if_true, if_false, reduceCtorEq, Nat.reduceSub, Nat.reduceAdd, Nat.reduceLeDiff, Bool.false_eq_true, Bool.or_false, Bool.false_or, ite_true, ite_false, n_add, lenOk_0, lenOk_1, lenOk_2, lenOk_3, lenOk_4, lenOk_5, lenOk_6, lenOk_7, lenOk_8, d_18, d_60, d_1000003, d_48271, d_2147483647, d_69621, d_65536, d_2147483629, d_16807, d_31, d_17, d_63, h, decide_false, n_mul h3 (show 48271 < 2 ^ 64 by decide), n_len, n_mul (show 7 < 2 ^ 64 by decide) (show (l.map N).length < 2 ^ 64 by rw [List.length_map]; omega), n_mod (show 0 < 2147483647 by decide), n_rng1 (show 4 ≤ 1000000 by decide)]
    generalize (z.natAbs * 48271 + 7 * (l.map N).length + 11) % 2147483647 = q at hmm
    obtain ⟨ρ', e, l', k5, m6, rfl, hd, hn, hq⟩ := forGo_do (g := .nm 5) (f := blk FUEL ib_draws_2) N (fun pre ρ => ∃ l' k5 m6, ρ = [s0, s1, sL l', some (false, .int z), sN z.natAbs, k5, sN m6, s7] ∧ (Dr l → Dr l') ∧ l'.length ≤ l.length + pre.length ∧ m6 < 2 ^ 40) (l := List.range 4) (ρ := [s0, s1, sL l, some (false, .int z), sN z.natAbs, j5, sN q, s7]) ⟨l, j5, q, rfl, fun h => h, by simp, by omega⟩ (by
      rintro pre x suf ρ hs ⟨l1, k1, m1, rfl, hd, hn, hm⟩
      have hx : x ∈ List.range 4 := by rw [hs]; simp
      rw [List.mem_range] at hx
      have hp : pre.length ≤ 4 := by
        have := congrArg List.length hs
        rw [List.length_range, List.length_append] at this
        omega
      obtain ⟨l2, m2, e, hd2, hn2, hm2⟩ := dr_2 (s0 := s0) (s1 := s1) (s3 := some (false, .int z)) (s4 := sN z.natAbs) (s7 := s7) (l := l1) (mixed := m1) (k := x) (by omega) (by omega) hm
      exact ⟨_, _, rfl, e, l2, sN x, m2, rfl, fun h => hd2 (hd h), by rw [List.length_append]; simp only [List.length_cons, List.length_nil]; omega, hm2⟩)
    rw [e]
    exact ⟨l', sN z.natAbs, k5, sN m6, rfl, hd, by rw [List.length_range] at hn; omega⟩
theorem dr_4 {s0 s3 s4 s6 j7 : Option R} {l : List Nat} {k many : Nat} (hl : l.length ≤ 100000) (hd : Dr l) : ∃ l' k7, blk FUEL ib_draws_4 [s0, sN many, sL l, s3, s4, sN k, s6, j7] = some (.nx [s0, sN many, sL l', s3, s4, sN k, s6, k7]) ∧ Dr l' ∧ l'.length ≤ l.length + 1 ∧ (l.length < many → l'.length = l.length + 1) ∧ (¬ l.length < many → l' = l) := by
  unfold blk ib_draws_4
  by_cases h : l.length < many
  · have app : ∀ base : Nat, Dr (l ++ [(base * 16807 + 31 * l.length + 17) % 1000003]) := fun base => hd.snoc (Nat.mod_lt _ (by decide))
    by_cases h0 : 0 < l.length
    · have hi : k % l.length < l.length := Nat.mod_lt _ h0
      have hx : (l.map N)[k % l.length]? = some (N l[k % l.length]) := by rw [List.getElem?_map, List.getElem?_eq_getElem hi]; rfl
      have hb : l[k % l.length] < 2 ^ 64 := Nat.lt_trans (hd _ (List.getElem_mem hi)) (by decide)
      refine ⟨l ++ [(l[k % l.length] * 16807 + 31 * l.length + 17) % 1000003], sN l[k % l.length], ?_, app _, by simp, fun _ => by simp, fun z => absurd h z⟩
      simp only [q_wipeR_1, q_wipeR_2, q_asg_1, q_asg_2, q_asg_3, q_asg_4, q_asgR_1, q_ownedArg_1, q_ownedArgs_1, q_ownedArgs_2, q_itemsOf_1, q_itemsOf_2, q_evE_1, q_evE_2, q_evE_3, q_evE_4, q_evE_5, q_evE_6, q_evE_7, q_evE_8, q_evE_9, q_evE_10, q_evE_11, q_evE_12, q_evE_13, q_evE_14, q_evE_15, q_evE_16, q_evE_17, q_evE_18, q_evE_19, q_evEs_1, q_evEs_2, q_evP_1, q_evP_2, q_evC_1, q_evC_2, q_evI_1, q_evI_2, q_evRet_1, q_evS_1, q_evS_2, q_evS_3, q_evS_4, q_evS_5, q_evS_6, q_evS_7, q_evS_8, q_evS_9, q_evS_10, q_evS_11, q_evS_12, q_evS_13, q_evS_14, q_evS_15, q_evS_16, q_evSs_1, q_evSs_2, q_oa_0, q_rt_0, q_oa_1, q_rt_1, q_oa_2, q_rt_2, q_oa_3, q_rt_3, q_oa_4, q_rt_4, q_oa_5, q_rt_5, q_oa_6, q_rt_6, q_oa_7, q_rt_7, q_oa_8, q_rt_8, q_oa_9, q_rt_9, q_oa_10, q_rt_10, q_oa_11, q_rt_11, q_oa_12, q_rt_12, q_oa_13, q_rt_13, q_oa_14, q_rt_14, q_oa_15, q_rt_15, q_oa_16, q_rt_16, q_oa_17, q_rt_17, q_ar_0, q_ar_1, q_ar_2, asI_N, asI_i, q_l2, q_l3, q_l4, q_l5, q_l6, q_l7, q_l8, q_l9, q_l10, q_l11, q_l12, q_l13, q_ret, q_bind, q_bindn, q_map, q_mapn, q_one, q_zero, q_evT, q_own, evNeg, startR, List.getElem?_cons_succ, List.getElem?_cons_zero, List.set_cons_succ, List.set_cons_zero, List.map_cons, List.map_nil, List.replicate, List.length_cons, List.length_nil, List.append_eq, List.nil_append, List.cons_append, Bool.and_true, Bool.true_and, Bool.and_false, Bool.false_and, Bool.not_true, Bool.not_false, if_true, if_false, reduceCtorEq, Nat.reduceSub, Nat.reduceAdd, Nat.reduceLeDiff, Bool.false_eq_true, Bool.or_false, Bool.false_or, ite_true, ite_false, n_add, lenOk_0, lenOk_1, lenOk_2, lenOk_3, lenOk_4, lenOk_5, lenOk_6, lenOk_7, lenOk_8, d_18, d_60, d_1000003, d_48271, d_2147483647, d_69621, d_65536, d_2147483629, d_16807, d_31, d_17, d_63, n_len, n_lt, h, h0, decide_true, n_gt, n_mod h0, List.length_map, n_ixl, hx, n_mul hb (show 16807 < 2 ^ 64 by decide), n_mul (show 31 < 2 ^ 64 by decide) (show l.length < 2 ^ 64 by omega), n_mod (show 0 < 1000003 by decide)]
      rw [if_pos (lenOk_of (by omega))]
      simp only [q_wipeR_1, q_wipeR_2, q_asg_1, q_asg_2, q_asg_3, q_asg_4, q_asgR_1, q_ownedArg_1, q_ownedArgs_1, q_ownedArgs_2, q_itemsOf_1, q_itemsOf_2, q_evE_1, q_evE_2, q_evE_3, q_evE_4, q_evE_5, q_evE_6, q_evE_7, q_evE_8, q_evE_9, q_evE_10, q_evE_11, q_evE_12, q_evE_13, q_evE_14, q_evE_15, q_evE_16, q_evE_17, q_evE_18, q_evE_19, q_evEs_1, q_evEs_2, q_evP_1, q_evP_2, q_evC_1, q_evC_2, q_evI_1, q_evI_2, q_evRet_1, q_evS_1, q_evS_2, q_evS_3, q_evS_4, q_evS_5, q_evS_6, q_evS_7, q_evS_8, q_evS_9, q_evS_10, q_evS_11, q_evS_12, q_evS_13, q_evS_14, q_evS_15, q_evS_16, q_evSs_1, q_evSs_2, q_oa_0, q_rt_0, q_oa_1, q_rt_1, q_oa_2, q_rt_2, q_oa_3, q_rt_3, q_oa_4, q_rt_4, q_oa_5, q_rt_5, q_oa_6, q_rt_6, q_oa_7, q_rt_7, q_oa_8, q_rt_8, q_oa_9, q_rt_9, q_oa_10, q_rt_10, q_oa_11, q_rt_11, q_oa_12, q_rt_12, q_oa_13, q_rt_13, q_oa_14, q_rt_14, q_oa_15, q_rt_15, q_oa_16, q_rt_16, q_oa_17, q_rt_17, q_ar_0, q_ar_1, q_ar_2, asI_N, asI_i, q_l2, q_l3, q_l4, q_l5, q_l6, q_l7, q_l8, q_l9, q_l10, q_l11, q_l12, q_l13, q_ret, q_bind, q_bindn, q_map, q_mapn, q_one, q_zero, q_evT, q_own, evNeg, startR, List.getElem?_cons_succ, List.getElem?_cons_zero, List.set_cons_succ, List.set_cons_zero, List.map_cons, List.map_nil, List.replicate, List.length_cons, List.length_nil, List.append_eq, List.nil_append, List.cons_append, Bool.and_true, Bool.true_and, Bool.and_false, Bool.false_and, Bool.not_true, Bool.not_false, if_true, if_false, reduceCtorEq, Nat.reduceSub, Nat.reduceAdd, Nat.reduceLeDiff, Bool.false_eq_true, Bool.or_false, Bool.false_or, ite_true, ite_false, n_add, lenOk_0, lenOk_1, lenOk_2, lenOk_3, lenOk_4, lenOk_5, lenOk_6, lenOk_7, lenOk_8, List.map_append, sL]
    · refine ⟨l ++ [(0 * 16807 + 31 * l.length + 17) % 1000003], sN 0, ?_, app _, by simp, fun _ => by simp, fun z => absurd h z⟩
      simp only [q_wipeR_1, q_wipeR_2, q_asg_1, q_asg_2, q_asg_3, q_asg_4, q_asgR_1, q_ownedArg_1, q_ownedArgs_1, q_ownedArgs_2, q_itemsOf_1, q_itemsOf_2, q_evE_1, q_evE_2, q_evE_3, q_evE_4, q_evE_5, q_evE_6, q_evE_7, q_evE_8, q_evE_9, q_evE_10, q_evE_11, q_evE_12, q_evE_13, q_evE_14, q_evE_15, q_evE_16, q_evE_17, q_evE_18, q_evE_19, q_evEs_1, q_evEs_2, q_evP_1, q_evP_2, q_evC_1, q_evC_2, q_evI_1, q_evI_2, q_evRet_1, q_evS_1, q_evS_2, q_evS_3, q_evS_4, q_evS_5, q_evS_6, q_evS_7, q_evS_8, q_evS_9, q_evS_10, q_evS_11, q_evS_12, q_evS_13, q_evS_14, q_evS_15, q_evS_16, q_evSs_1, q_evSs_2, q_oa_0, q_rt_0, q_oa_1, q_rt_1, q_oa_2, q_rt_2, q_oa_3, q_rt_3, q_oa_4, q_rt_4, q_oa_5, q_rt_5, q_oa_6, q_rt_6, q_oa_7, q_rt_7, q_oa_8, q_rt_8, q_oa_9, q_rt_9, q_oa_10, q_rt_10, q_oa_11, q_rt_11, q_oa_12, q_rt_12, q_oa_13, q_rt_13, q_oa_14, q_rt_14, q_oa_15, q_rt_15, q_oa_16, q_rt_16, q_oa_17, q_rt_17, q_ar_0, q_ar_1, q_ar_2, asI_N, asI_i, q_l2, q_l3, q_l4, q_l5, q_l6, q_l7, q_l8, q_l9, q_l10, q_l11, q_l12, q_l13, q_ret, q_bind, q_bindn, q_map, q_mapn, q_one, q_zero, q_evT, q_own, evNeg, startR, List.getElem?_cons_succ, List.getElem?_cons_zero, List.set_cons_succ, List.set_cons_zero, List.map_cons, List.map_nil, List.replicate, List.length_cons, List.length_nil, List.append_eq, List.nil_append, List.cons_append, Bool.and_true, Bool.true_and, Bool.and_false, Bool.false_and, Bool.not_true, Bool.not_false, if_true, if_false, reduceCtorEq, Nat.reduceSub, Nat.reduceAdd, Nat.reduceLeDiff, Bool.false_eq_true, Bool.or_false, Bool.false_or, ite_true, ite_false, n_add, lenOk_0, lenOk_1, lenOk_2, lenOk_3, lenOk_4, lenOk_5, lenOk_6, lenOk_7, lenOk_8, d_18, d_60, d_1000003, d_48271, d_2147483647, d_69621, d_65536, d_2147483629, d_16807, d_31, d_17, d_63, n_len, n_lt, h, h0, decide_true, decide_false, n_gt, List.length_map, n_mul (show 0 < 2 ^ 64 by decide) (show 16807 < 2 ^ 64 by decide), n_mul (show 31 < 2 ^ 64 by decide) (show l.length < 2 ^ 64 by omega), n_mod (show 0 < 1000003 by decide)]
      rw [if_pos (lenOk_of (by omega))]
      simp only [q_wipeR_1, q_wipeR_2, q_asg_1, q_asg_2, q_asg_3, q_asg_4, q_asgR_1, q_ownedArg_1, q_ownedArgs_1, q_ownedArgs_2, q_itemsOf_1, q_itemsOf_2, q_evE_1, q_evE_2, q_evE_3, q_evE_4, q_evE_5, q_evE_6, q_evE_7, q_evE_8, q_evE_9, q_evE_10, q_evE_11, q_evE_12, q_evE_13, q_evE_14, q_evE_15, q_evE_16, q_evE_17, q_evE_18, q_evE_19, q_evEs_1, q_evEs_2, q_evP_1, q_evP_2, q_evC_1, q_evC_2, q_evI_1, q_evI_2, q_evRet_1, q_evS_1, q_evS_2, q_evS_3, q_evS_4, q_evS_5, q_evS_6, q_evS_7, q_evS_8, q_evS_9, q_evS_10, q_evS_11, q_evS_12, q_evS_13, q_evS_14, q_evS_15, q_evS_16, q_evSs_1, q_evSs_2, q_oa_0, q_rt_0, q_oa_1, q_rt_1, q_oa_2, q_rt_2, q_oa_3, q_rt_3, q_oa_4, q_rt_4, q_oa_5, q_rt_5, q_oa_6, q_rt_6, q_oa_7, q_rt_7, q_oa_8, q_rt_8, q_oa_9, q_rt_9, q_oa_10, q_rt_10, q_oa_11, q_rt_11, q_oa_12, q_rt_12, q_oa_13, q_rt_13, q_oa_14, q_rt_14, q_oa_15, q_rt_15, q_oa_16, q_rt_16, q_oa_17, q_rt_17, q_ar_0, q_ar_1, q_ar_2, asI_N, asI_i, q_l2, q_l3, q_l4, q_l5, q_l6, q_l7, q_l8, q_l9, q_l10, q_l11, q_l12, q_l13, q_ret, q_bind, q_bindn, q_map, q_mapn, q_one, q_zero, q_evT, q_own, evNeg, startR, List.getElem?_cons_succ, List.getElem?_cons_zero, List.set_cons_succ, List.set_cons_zero, List.map_cons, List.map_nil, List.replicate, List.length_cons, List.length_nil, List.append_eq, List.nil_append, List.cons_append, Bool.and_true, Bool.true_and, Bool.and_false, Bool.false_and, Bool.not_true, Bool.not_false, if_true, if_false, reduceCtorEq, Nat.reduceSub, Nat.reduceAdd, Nat.reduceLeDiff, Bool.false_eq_true, Bool.or_false, Bool.false_or, ite_true, ite_false, n_add, lenOk_0, lenOk_1, lenOk_2, lenOk_3, lenOk_4, lenOk_5, lenOk_6, lenOk_7, lenOk_8, List.map_append, sL]
  · refine ⟨l, j7, ?_, hd, by omega, fun z => absurd z h, fun _ => rfl⟩
    simp only [q_wipeR_1, q_wipeR_2, q_asg_1, q_asg_2, q_asg_3, q_asg_4, q_asgR_1, q_ownedArg_1, q_ownedArgs_1, q_ownedArgs_2, q_itemsOf_1, q_itemsOf_2, q_evE_1, q_evE_2, q_evE_3, q_evE_4, q_evE_5, q_evE_6, q_evE_7, q_evE_8, q_evE_9, q_evE_10, q_evE_11, q_evE_12, q_evE_13, q_evE_14, q_evE_15, q_evE_16, q_evE_17, q_evE_18, q_evE_19, q_evEs_1, q_evEs_2, q_evP_1, q_evP_2, q_evC_1, q_evC_2, q_evI_1, q_evI_2, q_evRet_1, q_evS_1, q_evS_2, q_evS_3, q_evS_4, q_evS_5, q_evS_6, q_evS_7, q_evS_8, q_evS_9, q_evS_10, q_evS_11, q_evS_12, q_evS_13, q_evS_14, q_evS_15, q_evS_16, q_evSs_1, q_evSs_2, q_oa_0, q_rt_0, q_oa_1, q_rt_1, q_oa_2, q_rt_2, q_oa_3, q_rt_3, q_oa_4, q_rt_4, q_oa_5, q_rt_5, q_oa_6, q_rt_6, q_oa_7, q_rt_7, q_oa_8, q_rt_8, q_oa_9, q_rt_9, q_oa_10, q_rt_10, q_oa_11, q_rt_11, q_oa_12, q_rt_12, q_oa_13, q_rt_13, q_oa_14, q_rt_14, q_oa_15, q_rt_15, q_oa_16, q_rt_16, q_oa_17, q_rt_17, q_ar_0, q_ar_1, q_ar_2, asI_N, asI_i, q_l2, q_l3, q_l4, q_l5, q_l6, q_l7, q_l8, q_l9, q_l10, q_l11, q_l12, q_l13, q_ret, q_bind, q_bindn, q_map, q_mapn, q_one, q_zero, q_evT, q_own, evNeg, startR, List.getElem?_cons_succ, List.getElem?_cons_zero, List.set_cons_succ, List.set_cons_zero, List.map_cons, List.map_nil, List.replicate, List.length_cons, List.length_nil, List.append_eq, List.nil_append, List.cons_append, Bool.and_true, Bool.true_and, Bool.and_false, Bool.false_and, Bool.not_true, Bool.not_false, if_true, if_false, reduceCtorEq, Nat.reduceSub, Nat.reduceAdd, Nat.reduceLeDiff, Bool.false_eq_true, Bool.or_false, Bool.false_or, ite_true, ite_false, n_add, lenOk_0, lenOk_1, lenOk_2, lenOk_3, lenOk_4, lenOk_5, lenOk_6, lenOk_7, lenOk_8, d_18, d_60, d_1000003, d_48271, d_2147483647, d_69621, d_65536, d_2147483629, d_16807, d_31, d_17, d_63, n_len, n_lt, List.length_map, h, decide_false]
/-- THE DRAWS -/
theorem draws_is {ns : List Int} {many : Nat} (hn : ns.length ≤ 63) (hm : many ≤ 1000) : ∃ l : List Nat, f_draws [.list (ns.map .int), N many] = some (true, .list (l.map N)) ∧ l.length = many ∧ Dr l := by
  obtain ⟨ρ1, e1, l1, a3, a4, a5, a6, rfl, hd1, hn1⟩ := forGo_do (g := .nm 3) (f := blk FUEL ib_draws_3) PyData.int (fun pre ρ => ∃ l' k3 k4 k5 k6, ρ = [some (false, .list (ns.map .int)), sN many, sL l', k3, k4, k5, k6, none] ∧ Dr l' ∧ l'.length ≤ 60 * pre.length) (l := ns) (ρ := [some (false, .list (ns.map .int)), sN many, sL [], none, none, none, none, none]) ⟨[], none, none, none, none, rfl, (fun x hx => by cases hx), by simp⟩ (by
      rintro pre x suf ρ hs ⟨l1, k3, k4, k5, k6, rfl, hd, hl⟩
      have hp : pre.length ≤ 63 := by
        have := congrArg List.length hs
        rw [List.length_append] at this
        omega
      obtain ⟨l2, b4, b5, b6, e, hd2, hn2⟩ := dr_3 (s0 := some (false, .list (ns.map .int))) (s1 := sN many) (j4 := k4) (j5 := k5) (j6 := k6) (s7 := none) (l := l1) (z := x) (by omega)
      exact ⟨_, _, rfl, e, l2, some (false, .int x), b4, b5, b6, rfl, hd2 hd, by rw [List.length_append]; simp only [List.length_cons, List.length_nil]; omega⟩)
  obtain ⟨ρ2, e2, l2, b5, b7, rfl, hd2, hn2, hm2⟩ := forGo_do (g := .nm 5) (f := blk FUEL ib_draws_4) N (fun pre ρ => ∃ l' k5 k7, ρ = [some (false, .list (ns.map .int)), sN many, sL l', a3, a4, k5, a6, k7] ∧ Dr l' ∧ l'.length ≤ l1.length + pre.length ∧ pre.length ≤ l'.length) (l := List.range many) (ρ := [some (false, .list (ns.map .int)), sN many, sL l1, a3, a4, a5, a6, none]) ⟨l1, a5, none, rfl, hd1, by simp, by simp⟩ (by
      rintro pre x suf ρ hs ⟨l3, k5, k7, rfl, hd, hl, hg⟩
      have hp : pre.length < many := by
        have := congrArg List.length hs
        rw [List.length_range, List.length_append, List.length_cons] at this
        omega
      obtain ⟨l4, b7, e, hd2, hn2, h3, h4⟩ := dr_4 (s0 := some (false, .list (ns.map .int))) (s3 := a3) (s4 := a4) (s6 := a6) (j7 := k7) (l := l3) (k := x) (many := many) (by omega) hd
      refine ⟨_, _, rfl, e, l4, sN x, b7, rfl, hd2, by rw [List.length_append]; simp only [List.length_cons, List.length_nil]; omega, ?_⟩
      rw [List.length_append]
      simp only [List.length_cons, List.length_nil]
      by_cases hc : l3.length < many
      · have := h3 hc; omega
      · rw [h4 hc]; omega)
  rw [List.length_range] at hm2
  refine ⟨l2.take many, ?_, by rw [List.length_take]; omega, fun x hx => hd2 x (List.mem_of_mem_take hx)⟩
  have e63 : (ns.map PyData.int).take 63 = ns.map PyData.int := List.take_of_length_le (by rw [List.length_map]; exact hn)
  have es : evSl (.list (ns.map .int)) none (some 63) = some (true, .list (ns.map .int)) := (n_slh _ 63).trans (by rw [e63])
  have em : evSl (.list (l2.map N)) none (some (many : Int)) = some (true, .list ((l2.take many).map N)) := (n_slh _ many).trans (by rw [List.map_take])
  have e1' : forGo (.nm 3) (blk FUEL ib_draws_3) (ns.map .int) [some (false, .list (ns.map .int)), sN many, some (true, .list []), none, none, none, none, none] = _ := e1
  unfold f_draws evDef ir_draws
  simp only [q_wipeR_1, q_wipeR_2, q_asg_1, q_asg_2, q_asg_3, q_asg_4, q_asgR_1, q_ownedArg_1, q_ownedArgs_1, q_ownedArgs_2, q_itemsOf_1, q_itemsOf_2, q_evE_1, q_evE_2, q_evE_3, q_evE_4, q_evE_5, q_evE_6, q_evE_7, q_evE_8, q_evE_9, q_evE_10, q_evE_11, q_evE_12, q_evE_13, q_evE_14, q_evE_15, q_evE_16, q_evE_17, q_evE_18, q_evE_19, q_evEs_1, q_evEs_2, q_evP_1, q_evP_2, q_evC_1, q_evC_2, q_evI_1, q_evI_2, q_evRet_1, q_evS_1, q_evS_2, q_evS_3, q_evS_4, q_evS_5, q_evS_6, q_evS_7, q_evS_8, q_evS_9, q_evS_10, q_evS_11, q_evS_12, q_evS_13, q_evS_14, q_evS_15, q_evS_16, q_evSs_1, q_evSs_2, q_oa_0, q_rt_0, q_oa_1, q_rt_1, q_oa_2, q_rt_2, q_oa_3, q_rt_3, q_oa_4, q_rt_4, q_oa_5, q_rt_5, q_oa_6, q_rt_6, q_oa_7, q_rt_7, q_oa_8, q_rt_8, q_oa_9, q_rt_9, q_oa_10, q_rt_10, q_oa_11, q_rt_11, q_oa_12, q_rt_12, q_oa_13, q_rt_13, q_oa_14, q_rt_14, q_oa_15, q_rt_15, q_oa_16, q_rt_16, q_oa_17, q_rt_17, q_ar_0, q_ar_1, q_ar_2, asI_N, asI_i, q_l2, q_l3, q_l4, q_l5, q_l6, q_l7, q_l8, q_l9, q_l10, q_l11, q_l12, q_l13, q_ret, q_bind, q_bindn, q_map, q_mapn, q_one, q_zero, q_evT, q_own, evNeg, startR, List.getElem?_cons_succ, List.getElem?_cons_zero, List.set_cons_succ, List.set_cons_zero, List.map_cons, List.map_nil, List.replicate, List.length_cons, List.length_nil, List.append_eq, List.nil_append, List.cons_append, Bool.and_true, Bool.true_and, Bool.and_false, Bool.false_and, Bool.not_true, Bool.not_false, if_true, if_false, reduceCtorEq, Nat.reduceSub, Nat.reduceAdd, Nat.reduceLeDiff, Bool.false_eq_true, Bool.or_false, Bool.false_or, ite_true, ite_false, n_add, lenOk_0, lenOk_1, lenOk_2, lenOk_3, lenOk_4, lenOk_5, lenOk_6, lenOk_7, lenOk_8, es]
  rw [e1']
  simp only [q_wipeR_1, q_wipeR_2, q_asg_1, q_asg_2, q_asg_3, q_asg_4, q_asgR_1, q_ownedArg_1, q_ownedArgs_1, q_ownedArgs_2, q_itemsOf_1, q_itemsOf_2, q_evE_1, q_evE_2, q_evE_3, q_evE_4, q_evE_5, q_evE_6, q_evE_7, q_evE_8, q_evE_9, q_evE_10, q_evE_11, q_evE_12, q_evE_13, q_evE_14, q_evE_15, q_evE_16, q_evE_17, q_evE_18, q_evE_19, q_evEs_1, q_evEs_2, q_evP_1, q_evP_2, q_evC_1, q_evC_2, q_evI_1, q_evI_2, q_evRet_1, q_evS_1, q_evS_2, q_evS_3, q_evS_4, q_evS_5, q_evS_6, q_evS_7, q_evS_8, q_evS_9, q_evS_10, q_evS_11, q_evS_12, q_evS_13, q_evS_14, q_evS_15, q_evS_16, q_evSs_1, q_evSs_2, q_oa_0, q_rt_0, q_oa_1, q_rt_1, q_oa_2, q_rt_2, q_oa_3, q_rt_3, q_oa_4, q_rt_4, q_oa_5, q_rt_5, q_oa_6, q_rt_6, q_oa_7, q_rt_7, q_oa_8, q_rt_8, q_oa_9, q_rt_9, q_oa_10, q_rt_10, q_oa_11, q_rt_11, q_oa_12, q_rt_12, q_oa_13, q_rt_13, q_oa_14, q_rt_14, q_oa_15, q_rt_15, q_oa_16, q_rt_16, q_oa_17, q_rt_17, q_ar_0, q_ar_1, q_ar_2, asI_N, asI_i, q_l2, q_l3, q_l4, q_l5, q_l6, q_l7, q_l8, q_l9, q_l10, q_l11, q_l12, q_l13, q_ret, q_bind, q_bindn, q_map, q_mapn, q_one, q_zero, q_evT, q_own, evNeg, startR, List.getElem?_cons_succ, List.getElem?_cons_zero, List.set_cons_succ, List.set_cons_zero, List.map_cons, List.map_nil, List.replicate, List.length_cons, List.length_nil, List.append_eq, List.nil_append, List.cons_append, Bool.and_true, Bool.true_and, Bool.and_false, Bool.false_and, Bool.not_true, Bool.not_false, if_true, if_false, reduceCtorEq, Nat.reduceSub, Nat.reduceAdd, Nat.reduceLeDiff, Bool.false_eq_true, Bool.or_false, Bool.false_or, ite_true, ite_false, n_add, lenOk_0, lenOk_1, lenOk_2, lenOk_3, lenOk_4, lenOk_5, lenOk_6, lenOk_7, lenOk_8, n_rng1 (show many ≤ 1000000 by omega)]
  rw [e2]
  simp only [q_wipeR_1, q_wipeR_2, q_asg_1, q_asg_2, q_asg_3, q_asg_4, q_asgR_1, q_ownedArg_1, q_ownedArgs_1, q_ownedArgs_2, q_itemsOf_1, q_itemsOf_2, q_evE_1, q_evE_2, q_evE_3, q_evE_4, q_evE_5, q_evE_6, q_evE_7, q_evE_8, q_evE_9, q_evE_10, q_evE_11, q_evE_12, q_evE_13, q_evE_14, q_evE_15, q_evE_16, q_evE_17, q_evE_18, q_evE_19, q_evEs_1, q_evEs_2, q_evP_1, q_evP_2, q_evC_1, q_evC_2, q_evI_1, q_evI_2, q_evRet_1, q_evS_1, q_evS_2, q_evS_3, q_evS_4, q_evS_5, q_evS_6, q_evS_7, q_evS_8, q_evS_9, q_evS_10, q_evS_11, q_evS_12, q_evS_13, q_evS_14, q_evS_15, q_evS_16, q_evSs_1, q_evSs_2, q_oa_0, q_rt_0, q_oa_1, q_rt_1, q_oa_2, q_rt_2, q_oa_3, q_rt_3, q_oa_4, q_rt_4, q_oa_5, q_rt_5, q_oa_6, q_rt_6, q_oa_7, q_rt_7, q_oa_8, q_rt_8, q_oa_9, q_rt_9, q_oa_10, q_rt_10, q_oa_11, q_rt_11, q_oa_12, q_rt_12, q_oa_13, q_rt_13, q_oa_14, q_rt_14, q_oa_15, q_rt_15, q_oa_16, q_rt_16, q_oa_17, q_rt_17, q_ar_0, q_ar_1, q_ar_2, asI_N, asI_i, q_l2, q_l3, q_l4, q_l5, q_l6, q_l7, q_l8, q_l9, q_l10, q_l11, q_l12, q_l13, q_ret, q_bind, q_bindn, q_map, q_mapn, q_one, q_zero, q_evT, q_own, evNeg, startR, List.getElem?_cons_succ, List.getElem?_cons_zero, List.set_cons_succ, List.set_cons_zero, List.map_cons, List.map_nil, List.replicate, List.length_cons, List.length_nil, List.append_eq, List.nil_append, List.cons_append, Bool.and_true, Bool.true_and, Bool.and_false, Bool.false_and, Bool.not_true, Bool.not_false, if_true, if_false, reduceCtorEq, Nat.reduceSub, Nat.reduceAdd, Nat.reduceLeDiff, Bool.false_eq_true, Bool.or_false, Bool.false_or, ite_true, ite_false, n_add, lenOk_0, lenOk_1, lenOk_2, lenOk_3, lenOk_4, lenOk_5, lenOk_6, lenOk_7, lenOk_8, em]
end PV

set_option Elab.async false
set_option linter.all false
set_option maxRecDepth 100000
/-! Q1: the field of numbers a + b times the root of d, and its order. -/
namespace Qu
open Lean.Grind
structure Q (d : Nat) where
  a : Rat
  b : Rat
class NSq (d : Nat) : Prop where
  ns : ∀ a b : Rat, a * a = (d : Rat) * (b * b) → b = 0
variable {d : Nat}
theorem ext' {x y : Q d} (h1 : x.a = y.a) (h2 : x.b = y.b) : x = y := by
  cases x; cases y; cases h1; cases h2; rfl
theorem ext_iff' {x y : Q d} : x = y ↔ x.a = y.a ∧ x.b = y.b := ⟨fun h => by rw [h]; exact ⟨rfl, rfl⟩, fun h => ext' h.1 h.2⟩
namespace Q
protected def ofR (r : Rat) : Q d := ⟨r, 0⟩
protected def add (x y : Q d) : Q d := ⟨x.a + y.a, x.b + y.b⟩
protected def mul (x y : Q d) : Q d := ⟨x.a * y.a + (d : Rat) * (x.b * y.b), x.a * y.b + x.b * y.a⟩
protected def neg (x : Q d) : Q d := ⟨-x.a, -x.b⟩
protected def sub (x y : Q d) : Q d := ⟨x.a - y.a, x.b - y.b⟩
def nrm (x : Q d) : Rat := x.a * x.a - (d : Rat) * (x.b * x.b)
protected def inv (x : Q d) : Q d := ⟨x.a / x.nrm, -x.b / x.nrm⟩
def conj (x : Q d) : Q d := ⟨x.a, -x.b⟩
protected def npow (x : Q d) : Nat → Q d
  | 0 => ⟨1, 0⟩
  | n + 1 => Q.mul (Q.npow x n) x
protected def zpow (x : Q d) : Int → Q d
  | .ofNat n => Q.npow x n
  | .negSucc n => Q.inv (Q.npow x (n + 1))
instance : Add (Q d) := ⟨Q.add⟩
instance : Mul (Q d) := ⟨Q.mul⟩
instance : Neg (Q d) := ⟨Q.neg⟩
instance : Sub (Q d) := ⟨Q.sub⟩
instance : Inv (Q d) := ⟨Q.inv⟩
instance : Div (Q d) := ⟨fun x y => Q.mul x (Q.inv y)⟩
instance : NatCast (Q d) := ⟨fun n => ⟨(n : Rat), 0⟩⟩
instance : IntCast (Q d) := ⟨fun n => ⟨(n : Rat), 0⟩⟩
instance (n : Nat) : OfNat (Q d) n := ⟨⟨(n : Rat), 0⟩⟩
instance : SMul Nat (Q d) := ⟨fun n x => Q.mul ⟨(n : Rat), 0⟩ x⟩
instance : SMul Int (Q d) := ⟨fun n x => Q.mul ⟨(n : Rat), 0⟩ x⟩
instance : HPow (Q d) Nat (Q d) := ⟨Q.npow⟩
instance : HPow (Q d) Int (Q d) := ⟨Q.zpow⟩
@[simp] theorem add_a (x y : Q d) : (x + y).a = x.a + y.a := rfl
@[simp] theorem add_b (x y : Q d) : (x + y).b = x.b + y.b := rfl
@[simp] theorem sub_a (x y : Q d) : (x - y).a = x.a - y.a := rfl
@[simp] theorem sub_b (x y : Q d) : (x - y).b = x.b - y.b := rfl
@[simp] theorem neg_a (x : Q d) : (-x).a = -x.a := rfl
@[simp] theorem neg_b (x : Q d) : (-x).b = -x.b := rfl
@[simp] theorem mul_a (x y : Q d) : (x * y).a = x.a * y.a + (d : Rat) * (x.b * y.b) := rfl
@[simp] theorem mul_b (x y : Q d) : (x * y).b = x.a * y.b + x.b * y.a := rfl
@[simp] theorem nat_a (n : Nat) : ((n : Q d)).a = (n : Rat) := rfl
@[simp] theorem nat_b (n : Nat) : ((n : Q d)).b = 0 := rfl
@[simp] theorem int_a (n : Int) : ((n : Q d)).a = (n : Rat) := rfl
@[simp] theorem int_b (n : Int) : ((n : Q d)).b = 0 := rfl
@[simp] theorem lit_a (n : Nat) : (OfNat.ofNat n : Q d).a = (n : Rat) := rfl
@[simp] theorem lit_b (n : Nat) : (OfNat.ofNat n : Q d).b = 0 := rfl
@[simp] theorem zero_a : (0 : Q d).a = 0 := rfl
@[simp] theorem zero_b : (0 : Q d).b = 0 := rfl
@[simp] theorem one_a : (1 : Q d).a = 1 := rfl
@[simp] theorem one_b : (1 : Q d).b = 0 := rfl
theorem nrm_zero [NSq d] {x : Q d} (h : x.nrm = 0) : x = 0 := by
  unfold nrm at h
  have hb : x.b = 0 := NSq.ns (d := d) x.a x.b (by grind)
  have ha : x.a = 0 := by rw [hb] at h; grind
  exact ext' ha hb
instance : Semiring (Q d) where
  add_zero x := ext' (by simp; grind) (by simp; grind)
  add_comm x y := ext' (by simp; grind) (by simp; grind)
  add_assoc x y z := ext' (by simp; grind) (by simp; grind)
  mul_assoc x y z := ext' (by simp; grind) (by simp; grind)
  mul_one x := ext' (by simp; grind) (by simp; grind)
  one_mul x := ext' (by simp; grind) (by simp; grind)
  left_distrib x y z := ext' (by simp; grind) (by simp; grind)
  right_distrib x y z := ext' (by simp; grind) (by simp; grind)
  zero_mul x := ext' (by simp; grind) (by simp; grind)
  mul_zero x := ext' (by simp; grind) (by simp; grind)
  pow_zero x := rfl
  pow_succ x n := rfl
  ofNat_succ n := ext' (by simp) (by simp; grind)
  ofNat_eq_natCast n := rfl
  nsmul_eq_natCast_mul n x := rfl
instance : CommRing (Q d) where
  neg_add_cancel x := ext' (by simp; grind) (by simp; grind)
  sub_eq_add_neg x y := ext' (by simp; grind) (by simp; grind)
  neg_zsmul i x := by
    show Q.mul ⟨((-i : Int) : Rat), 0⟩ x = Q.neg (Q.mul ⟨(i : Rat), 0⟩ x)
    apply ext' <;> simp [Q.mul, Q.neg, Rat.intCast_neg] <;> grind
  zsmul_natCast_eq_nsmul n x := by
    show Q.mul ⟨(((n : Nat) : Int) : Rat), 0⟩ x = Q.mul ⟨(n : Rat), 0⟩ x
    rfl
  intCast_ofNat n := rfl
  intCast_neg i := by
    show (⟨((-i : Int) : Rat), 0⟩ : Q d) = Q.neg ⟨(i : Rat), 0⟩
    apply ext' <;> simp [Q.neg, Rat.intCast_neg]
  mul_comm x y := ext' (by simp; grind) (by simp; grind)
theorem inv_a (x : Q d) : (x⁻¹).a = x.a / x.nrm := rfl
theorem inv_b (x : Q d) : (x⁻¹).b = -x.b / x.nrm := rfl
theorem mul_inv [NSq d] {x : Q d} (h : x ≠ 0) : x * x⁻¹ = 1 := by
  have hn : x.nrm ≠ 0 := fun e => h (nrm_zero e)
  have e : x.nrm = x.a * x.a - (d : Rat) * (x.b * x.b) := rfl
  apply ext'
  · rw [mul_a, inv_a, inv_b, one_a]; grind
  · rw [mul_b, inv_a, inv_b, one_b]; grind
instance [NSq d] : Field (Q d) where
  div_eq_mul_inv x y := rfl
  zero_ne_one := fun h => by
    have := congrArg Q.a h
    simp at this
  inv_zero := ext' (by rw [inv_a]; simp; grind) (by rw [inv_b]; simp; grind)
  mul_inv_cancel := mul_inv
  zpow_zero x := rfl
  zpow_succ x n := rfl
  zpow_neg x n := by
    show Q.zpow x (-n) = Q.inv (Q.zpow x n)
    have inv0 : Q.inv (⟨1, 0⟩ : Q d) = ⟨1, 0⟩ := by
      show (⟨_, _⟩ : Q d) = _
      apply ext' <;> simp [nrm] <;> grind
    have invinv : ∀ y : Q d, Q.inv (Q.inv y) = y := by
      intro y
      by_cases h : y = 0
      · subst h
        show Q.inv (Q.inv (0 : Q d)) = 0
        have : Q.inv (0 : Q d) = 0 := ext' (by show (0:Rat) / _ = 0; grind) (by show -(0:Rat) / _ = 0; grind)
        rw [this, this]
      · have h1 := mul_inv h
        have hy : y⁻¹ ≠ 0 := fun e => by
          rw [e] at h1
          have := congrArg Q.a h1
          simp at this
          grind
        have h2 := mul_inv hy
        show (y⁻¹)⁻¹ = y
        calc (y⁻¹)⁻¹ = 1 * (y⁻¹)⁻¹ := by grind
          _ = (y * y⁻¹) * (y⁻¹)⁻¹ := by rw [h1]
          _ = y * (y⁻¹ * (y⁻¹)⁻¹) := by grind
          _ = y := by rw [h2]; grind
    match n with
    | .ofNat 0 => exact inv0.symm
    | .ofNat (k + 1) => rfl
    | .negSucc k => exact (invinv _).symm
end Q
end Qu

set_option Elab.async false
set_option linter.all false
set_option maxRecDepth 100000
/-! Q2: the order of Q d. -/
namespace Qu
open Lean.Grind
variable {d : Nat}
namespace Q
/-- above 0 -/
def pos (x : Q d) : Prop := (0 < x.a ∧ 0 < x.nrm) ∨ (0 < x.b ∧ x.nrm < 0)
theorem sq_lt {x y : Rat} (hx : 0 ≤ x) (hy : 0 ≤ y) (h : x * x < y * y) : x < y := by
  rcases (show x < y ∨ y ≤ x by grind) with h1 | h1
  · exact h1
  · have : y * y ≤ x * x := by
      have h2 : y * y ≤ y * x := Rat.mul_le_mul_of_nonneg_left h1 hy
      have h3 : y * x ≤ x * x := Rat.mul_le_mul_of_nonneg_right h1 hx
      grind
    grind
theorem mul_pos' {x y : Rat} (hx : 0 < x) (hy : 0 < y) : 0 < x * y := Rat.mul_pos hx hy
theorem sq_nn (x : Rat) : 0 ≤ x * x := by
  rcases Rat.le_total (a := 0) (b := x) with h | h
  · exact Rat.mul_nonneg h h
  · have : 0 ≤ (-x) * (-x) := Rat.mul_nonneg (by grind) (by grind)
    grind
theorem sq_pos {x : Rat} (h : x ≠ 0) : 0 < x * x := by
  have := sq_nn x
  have h2 : x * x ≠ 0 := by grind
  grind
/-- from squares to the terms: x x < y y and y above 0 give x < y and -x < y -/
theorem abs_lt {x y : Rat} (hy : 0 < y) (h : x * x < y * y) : x < y ∧ -x < y := by
  constructor
  · rcases Rat.le_total (a := 0) (b := x) with h1 | h1
    · exact sq_lt h1 (by grind) h
    · grind
  · rcases Rat.le_total (a := 0) (b := x) with h1 | h1
    · grind
    · exact sq_lt (x := -x) (by grind) (by grind) (by grind)
theorem nrm_mul (x y : Q d) : (x * y).nrm = x.nrm * y.nrm := by
  unfold nrm
  rw [mul_a, mul_b]
  grind
theorem nrm_ne [NSq d] {x : Q d} (h : x ≠ 0) : x.nrm ≠ 0 := fun e => h (nrm_zero e)
theorem d_pos [NSq d] : 0 < (d : Rat) := by
  rcases Nat.eq_zero_or_pos d with h | h
  · subst h
    have := NSq.ns (d := 0) 0 1 (by grind)
    grind
  · exact_mod_cast h
theorem mul_lt' {p q r s : Rat} (hp : 0 ≤ p) (h1 : p < q) (hr : 0 ≤ r) (h2 : r < s) : p * r < q * s := by
  have a1 : q * r < q * s := Rat.mul_lt_mul_of_pos_left h2 (by grind)
  have a2 : p * r ≤ q * r := Rat.mul_le_mul_of_nonneg_right (by grind) hr
  grind
theorem pos_mul [NSq d] {x y : Q d} (hx : pos x) (hy : pos y) : pos (x * y) := by
  have hd := d_pos (d := d)
  have n := nrm_mul x y
  have sx := sq_nn x.b
  have sy := sq_nn y.b
  have sxa := sq_nn x.a
  have sya := sq_nn y.a
  have d1 : 0 ≤ (d : Rat) * (x.b * x.b) := Rat.mul_nonneg (by grind) sx
  have d2 : 0 ≤ (d : Rat) * (y.b * y.b) := Rat.mul_nonneg (by grind) sy
  unfold pos
  rcases hx with ⟨ha, hn⟩ | ⟨hb, hn⟩ <;> rcases hy with ⟨ha2, hn2⟩ | ⟨hb2, hn2⟩ <;> unfold nrm at hn hn2
  · left
    constructor
    · rw [mul_a]
      have h1 := mul_lt' d1 (show _ < x.a * x.a by grind) d2 (show _ < y.a * y.a by grind)
      have h2 := abs_lt (x := (d : Rat) * (x.b * y.b)) (y := x.a * y.a) (Rat.mul_pos ha ha2) (by grind)
      grind
    · rw [n]; exact Rat.mul_pos hn hn2
  · right
    constructor
    · rw [mul_b]
      have h1 := mul_lt' d1 (show _ < x.a * x.a by grind) sya (show _ < (d : Rat) * (y.b * y.b) by grind)
      have h3 : (d : Rat) * ((x.b * y.a) * (x.b * y.a)) < (d : Rat) * ((x.a * y.b) * (x.a * y.b)) := by grind
      have h4 := Rat.lt_of_mul_lt_mul_left h3 (by grind)
      have h2 := abs_lt (x := x.b * y.a) (y := x.a * y.b) (Rat.mul_pos ha hb2) h4
      grind
    · rw [n]
      have := Rat.mul_pos hn (show 0 < -y.nrm by unfold nrm; grind)
      unfold nrm at *
      grind
  · right
    constructor
    · rw [mul_b]
      have h1 := mul_lt' d2 (show _ < y.a * y.a by grind) sxa (show _ < (d : Rat) * (x.b * x.b) by grind)
      have h3 : (d : Rat) * ((x.a * y.b) * (x.a * y.b)) < (d : Rat) * ((x.b * y.a) * (x.b * y.a)) := by grind
      have h4 := Rat.lt_of_mul_lt_mul_left h3 (by grind)
      have h2 := abs_lt (x := x.a * y.b) (y := x.b * y.a) (Rat.mul_pos hb ha2) h4
      grind
    · rw [n]
      have := Rat.mul_pos hn2 (show 0 < -x.nrm by unfold nrm; grind)
      unfold nrm at *
      grind
  · left
    constructor
    · rw [mul_a]
      have h1 := mul_lt' sxa (show _ < (d : Rat) * (x.b * x.b) by grind) sya (show _ < (d : Rat) * (y.b * y.b) by grind)
      have h2 := abs_lt (x := x.a * y.a) (y := (d : Rat) * (x.b * y.b)) (Rat.mul_pos hd (Rat.mul_pos hb hb2)) (by grind)
      grind
    · rw [n]
      have := Rat.mul_pos (show 0 < -x.nrm by unfold nrm; grind) (show 0 < -y.nrm by unfold nrm; grind)
      grind
theorem pos_ne {x : Q d} (h : pos x) : x ≠ 0 := fun e => by
  subst e
  rcases h with ⟨h, _⟩ | ⟨h, _⟩ <;> simp at h
theorem inv_pos' {x : Rat} (h : 0 < x) : 0 < x⁻¹ := Rat.inv_pos.mpr h
theorem pos_inv [NSq d] {x : Q d} (h : pos x) : pos x⁻¹ := by
  have hne := nrm_ne (pos_ne h)
  have hn : (x⁻¹).nrm = (x.nrm)⁻¹ := by
    have : (x⁻¹).nrm = (x.a / x.nrm) * (x.a / x.nrm) - (d : Rat) * ((-x.b / x.nrm) * (-x.b / x.nrm)) := rfl
    have e : x.nrm = x.a * x.a - (d : Rat) * (x.b * x.b) := rfl
    rw [this]
    grind
  unfold pos
  rw [hn, inv_a, inv_b]
  rcases h with ⟨ha, h⟩ | ⟨hb, h⟩
  · left
    have := inv_pos' h
    exact ⟨by rw [Rat.div_def]; exact Rat.mul_pos ha this, this⟩
  · right
    have h2 := inv_pos' (show 0 < -x.nrm by grind)
    have h3 : (-x.nrm)⁻¹ = -(x.nrm)⁻¹ := by grind
    rw [h3] at h2
    have h4 := Rat.mul_pos hb h2
    constructor
    · grind
    · grind
theorem pos_one_add [NSq d] {z : Q d} (h : pos z) : pos (1 + z) := by
  unfold pos
  have hd := d_pos (d := d)
  have e : (1 + z).nrm = (1 + z.a) * (1 + z.a) - (d : Rat) * (z.b * z.b) := by
    unfold nrm
    rw [add_a, add_b, one_a, one_b]
    grind
  have ea : (1 + z).a = 1 + z.a := rfl
  have eb : (1 + z).b = z.b := by rw [add_b, one_b]; grind
  rw [e, ea, eb]
  rcases h with ⟨ha, h⟩ | ⟨hb, h⟩ <;> unfold nrm at h
  · left; constructor <;> grind
  · rcases (show (1 + z.a) * (1 + z.a) - (d : Rat) * (z.b * z.b) < 0 ∨ (1 + z.a) * (1 + z.a) = (d : Rat) * (z.b * z.b) ∨ 0 < (1 + z.a) * (1 + z.a) - (d : Rat) * (z.b * z.b) by grind) with h1 | h1 | h1
    · right; exact ⟨hb, h1⟩
    · have := NSq.ns (d := d) _ _ h1
      grind
    · left; constructor <;> grind
theorem pos_add [NSq d] {x y : Q d} (hx : pos x) (hy : pos y) : pos (x + y) := by
  have h1 := pos_mul hx (pos_one_add (pos_mul hy (pos_inv hx)))
  have h2 := mul_inv (pos_ne hx)
  have : x * (1 + y * x⁻¹) = x + y := by grind
  rwa [this] at h1
theorem pos_neg [NSq d] {x : Q d} (h : pos x) : ¬ pos (-x) := fun h2 => by
  have h1 := pos_add h h2
  have : x + -x = 0 := by grind
  rw [this] at h1
  exact pos_ne h1 rfl
theorem pos_total [NSq d] (x : Q d) : x = 0 ∨ pos x ∨ pos (-x) := by
  by_cases h0 : x = 0
  · exact .inl h0
  · right
    have hn := nrm_ne h0
    have e : (-x).nrm = x.nrm := by unfold nrm; rw [neg_a, neg_b]; grind
    have hd := d_pos (d := d)
    unfold pos
    rw [e, neg_a, neg_b]
    have d1 : 0 ≤ (d : Rat) * (x.b * x.b) := Rat.mul_nonneg (by grind) (sq_nn x.b)
    have d2 := sq_nn x.a
    rcases (show 0 < x.nrm ∨ x.nrm < 0 by grind) with h | h
    · have : x.a ≠ 0 := fun e => by unfold nrm at h; rw [e] at h; grind
      rcases (show 0 < x.a ∨ 0 < -x.a by grind) with h2 | h2
      · exact .inl (.inl ⟨h2, h⟩)
      · exact .inr (.inl ⟨h2, h⟩)
    · have : x.b ≠ 0 := fun e => by unfold nrm at h; rw [e] at h; grind
      rcases (show 0 < x.b ∨ 0 < -x.b by grind) with h2 | h2
      · exact .inl (.inr ⟨h2, h⟩)
      · exact .inr (.inr ⟨h2, h⟩)
instance : LT (Q d) := ⟨fun x y => pos (y - x)⟩
instance : LE (Q d) := ⟨fun x y => x = y ∨ pos (y - x)⟩
theorem lt_def {x y : Q d} : x < y ↔ pos (y - x) := Iff.rfl
theorem le_def {x y : Q d} : x ≤ y ↔ x = y ∨ pos (y - x) := Iff.rfl
instance [NSq d] : Std.IsLinearOrder (Q d) where
  le_refl x := .inl rfl
  le_trans x y z h1 h2 := by
    rcases h1 with rfl | h1
    · exact h2
    rcases h2 with rfl | h2
    · exact .inr h1
    · right
      have := pos_add h1 h2
      have e : y - x + (z - y) = z - x := by grind
      rwa [e] at this
  le_antisymm x y h1 h2 := by
    rcases h1 with h1 | h1
    · exact h1
    rcases h2 with h2 | h2
    · exact h2.symm
    · exfalso
      apply pos_neg h1
      have e : -(y - x) = x - y := by grind
      rwa [e]
  le_total x y := by
    rcases pos_total (y - x) with h | h | h
    · left; left; grind
    · left; right; exact h
    · right; right
      have e : -(y - x) = x - y := by grind
      rwa [e] at h
instance [NSq d] : Std.LawfulOrderLT (Q d) where
  lt_iff x y := by
    constructor
    · intro h
      refine ⟨.inr h, ?_⟩
      rintro (rfl | h2)
      · have e : y - y = (0 : Q d) := by grind
        exact pos_ne (show pos (y - y) from h) e
      · apply pos_neg (show pos (y - x) from h)
        have e : -(y - x) = x - y := by grind
        rwa [e]
    · rintro ⟨h1 | h1, h2⟩
      · exact absurd (.inl h1.symm) h2
      · exact h1
instance [NSq d] : OrderedRing (Q d) where
  add_le_left_iff {x y} z := by
    have e : y + z - (x + z) = y - x := by grind
    constructor
    · rintro (rfl | h)
      · exact .inl rfl
      · right; rwa [e]
    · rintro (h | h)
      · left; grind
      · right; rwa [e] at h
  zero_lt_one := by
    show pos (1 - 0 : Q d)
    have e : (1 - 0 : Q d) = 1 := by grind
    rw [e]
    left
    constructor
    · rw [one_a]; grind
    · unfold nrm; rw [one_a, one_b]; grind
  mul_lt_mul_of_pos_left {x y z} h1 h2 := by
    show pos (z * y - z * x)
    have h3 := pos_mul (show pos (z - 0) from h2) (show pos (y - x) from h1)
    have e : (z - 0) * (y - x) = z * y - z * x := by grind
    rwa [e] at h3
  mul_lt_mul_of_pos_right {x y z} h1 h2 := by
    show pos (y * z - x * z)
    have h3 := pos_mul (show pos (z - 0) from h2) (show pos (y - x) from h1)
    have e : (z - 0) * (y - x) = y * z - x * z := by grind
    rwa [e] at h3
end Q
end Qu

set_option Elab.async false
set_option linter.all false
set_option maxRecDepth 100000
/-! Q3: the triples in lowest terms. -/
namespace Qu
open Lean.Grind
variable {d : Nat}
def g3 (p q s : Int) : Nat := Int.gcd (Int.gcd p q) s
theorem g3_dvd (p q s : Int) : (g3 p q s : Int) ∣ p ∧ (g3 p q s : Int) ∣ q ∧ (g3 p q s : Int) ∣ s := by
  have h1 := Int.gcd_dvd_left (a := (Int.gcd p q : Int)) (b := s)
  exact ⟨Int.dvd_trans h1 (Int.gcd_dvd_left ..), Int.dvd_trans h1 (Int.gcd_dvd_right ..), Int.gcd_dvd_right ..⟩
theorem dvd_g3 {k p q s : Int} (h1 : k ∣ p) (h2 : k ∣ q) (h3 : k ∣ s) : k ∣ (g3 p q s : Int) := Int.dvd_coe_gcd (Int.dvd_coe_gcd h1 h2) h3
theorem g3_pos {p q s : Int} (h : s ≠ 0) : 0 < g3 p q s := by
  unfold g3
  have := Int.gcd_pos_of_ne_zero_right (Int.gcd p q : Int) h
  exact this
theorem g3_mul (p q s k : Int) : g3 (p * k) (q * k) (s * k) = g3 p q s * k.natAbs := by
  unfold g3
  rw [Int.gcd_mul_right]
  have e : ((Int.gcd p q * k.natAbs : Nat) : Int) = Int.gcd p q * (k.natAbs : Int) := Int.natCast_mul ..
  rw [e]
  have h3 : ∀ x : Int, Int.gcd x (s * k) = Int.gcd x (s * (k.natAbs : Int)) := fun x => by
    rcases Int.natAbs_eq k with h | h
    · rw [← h]
    · have h2 : (k.natAbs : Int) = -k := by omega
      rw [h2, Int.mul_neg, Int.gcd_neg]
  rw [h3, Int.gcd_mul_right, Int.natAbs_natCast]
/-- in lowest terms -/
structure Nf (p q s : Int) : Prop where
  pos : 0 < s
  one : g3 p q s = 1
theorem nf_dvd {p q s p' q' s' : Int} (h : Nf p q s) (e1 : p * s' = p' * s) (e2 : q * s' = q' * s) : s ∣ s' := by
  have h1 : s ∣ (g3 (p * s') (q * s') (s * s') : Int) := dvd_g3 (e1 ▸ Int.dvd_mul_left ..) (e2 ▸ Int.dvd_mul_left ..) (Int.dvd_mul_right ..)
  rw [g3_mul, h.one, Nat.one_mul] at h1
  exact Int.dvd_natAbs.mp h1
theorem nf_eq {p q s p' q' s' : Int} (h : Nf p q s) (h' : Nf p' q' s') (e1 : p * s' = p' * s) (e2 : q * s' = q' * s) : p = p' ∧ q = q' ∧ s = s' := by
  have d1 := nf_dvd h e1 e2
  have d2 := nf_dvd h' e1.symm e2.symm
  have e : s = s' := Int.dvd_antisymm (by have := h.pos; omega) (by have := h'.pos; omega) d1 d2
  subst e
  have hs : s ≠ 0 := by have := h.pos; omega
  exact ⟨Int.eq_of_mul_eq_mul_right hs e1, Int.eq_of_mul_eq_mul_right hs e2, rfl⟩
/-- the number p + q times the root, by s -/
def mkQ (d : Nat) (p q s : Int) : Q d := ⟨(p : Rat) / (s : Rat), (q : Rat) / (s : Rat)⟩
theorem cast_ne {s : Int} (h : s ≠ 0) : (s : Rat) ≠ 0 := by exact_mod_cast h
theorem mkQ_eq_iff {p q s p' q' s' : Int} (hs : s ≠ 0) (hs' : s' ≠ 0) : mkQ d p q s = mkQ d p' q' s' ↔ p * s' = p' * s ∧ q * s' = q' * s := by
  have h1 := cast_ne hs
  have h2 := cast_ne hs'
  unfold mkQ
  rw [ext_iff']
  constructor
  · rintro ⟨a, b⟩
    have a : (p : Rat) / s = p' / s' := a
    have b : (q : Rat) / s = q' / s' := b
    have a2 : (p : Rat) * s' = p' * s := by grind
    have b2 : (q : Rat) * s' = q' * s := by grind
    exact ⟨by exact_mod_cast a2, by exact_mod_cast b2⟩
  · rintro ⟨a, b⟩
    have a2 : (p : Rat) * s' = p' * s := by exact_mod_cast a
    have b2 : (q : Rat) * s' = q' * s := by exact_mod_cast b
    refine ⟨?_, ?_⟩
    · show (p : Rat) / s = p' / s'
      grind
    · show (q : Rat) / s = q' / s'
      grind
/-- the three numbers of p, q, s in lowest terms -/
def dv (p q s : Int) : Int := if s < 0 then -(g3 p q s : Int) else g3 p q s
theorem dv_ne {p q s : Int} (h : s ≠ 0) : dv p q s ≠ 0 := by
  have := g3_pos (p := p) (q := q) h
  unfold dv
  split <;> omega
theorem dv_dvd (p q s : Int) : dv p q s ∣ p ∧ dv p q s ∣ q ∧ dv p q s ∣ s := by
  have h := g3_dvd p q s
  unfold dv
  split
  · exact ⟨Int.neg_dvd.mpr h.1, Int.neg_dvd.mpr h.2.1, Int.neg_dvd.mpr h.2.2⟩
  · exact h
theorem nz_core {c p q s p' q' s' : Int} (hc : c ≠ 0) (hp : p = p' * c) (hq : q = q' * c) (hs : s = s' * c) (hg : g3 p q s = c.natAbs) (h0 : 0 < s') : Nf (p / c) (q / c) (s / c) := by
  subst hp hq hs
  rw [Int.mul_ediv_cancel _ hc, Int.mul_ediv_cancel _ hc, Int.mul_ediv_cancel _ hc]
  refine ⟨h0, ?_⟩
  rw [g3_mul] at hg
  have : 0 < c.natAbs := by omega
  exact Nat.eq_of_mul_eq_mul_right this (by omega)
theorem nz_nf {p q s : Int} (h : s ≠ 0) : Nf (p / dv p q s) (q / dv p q s) (s / dv p q s) := by
  have hd := dv_ne (p := p) (q := q) h
  obtain ⟨⟨p', hp⟩, ⟨q', hq⟩, ⟨s', hs⟩⟩ := dv_dvd p q s
  have hg : g3 p q s = (dv p q s).natAbs := by unfold dv; split <;> omega
  have hsg : (s < 0 ∧ dv p q s < 0) ∨ (0 < s ∧ 0 < dv p q s) := by
    have := g3_pos (p := p) (q := q) h
    unfold dv
    split <;> omega
  refine nz_core hd (hp.trans (Int.mul_comm ..)) (hq.trans (Int.mul_comm ..)) (hs.trans (Int.mul_comm ..)) hg ?_
  rcases hsg with ⟨h1, h2⟩ | ⟨h1, h2⟩
  · have h3 : dv p q s * s' < 0 := by rw [← hs]; exact h1
    exact Int.pos_of_mul_neg_left (by rw [Int.mul_comm]; exact h3) h2
  · have h3 : 0 < dv p q s * s' := by rw [← hs]; exact h1
    exact Int.pos_of_mul_pos_right h3 h2
theorem nz_val {p q s : Int} (h : s ≠ 0) : mkQ d (p / dv p q s) (q / dv p q s) (s / dv p q s) = mkQ d p q s := by
  have hn := nz_nf (p := p) (q := q) h
  have hd := dv_ne (p := p) (q := q) h
  obtain ⟨h1, h2, h3⟩ := dv_dvd p q s
  have e1 := Int.ediv_mul_cancel h1
  have e2 := Int.ediv_mul_cancel h2
  have e3 := Int.ediv_mul_cancel h3
  rw [mkQ_eq_iff (by have := hn.pos; omega) h]
  generalize p / dv p q s = p' at *
  generalize q / dv p q s = q' at *
  generalize s / dv p q s = s' at *
  rw [← e1, ← e2, ← e3]
  constructor <;> grind
/-- a number's triple -/
def p0 (x : Q d) : Int := x.a.num * x.b.den
def q0 (x : Q d) : Int := x.b.num * x.a.den
def s0 (x : Q d) : Int := x.a.den * x.b.den
theorem s0_ne (x : Q d) : s0 x ≠ 0 := by
  unfold s0
  have h1 := x.a.den_nz
  have h2 := x.b.den_nz
  intro h
  rcases Int.mul_eq_zero.mp h with h | h <;> omega
theorem rat_eq (r : Rat) : r * (r.den : Rat) = (r.num : Rat) := by
  have e : r = (r.num : Rat) / (r.den : Rat) := by rw [← Rat.mkRat_eq_div, Rat.mkRat_self]
  have h : (r.den : Rat) ≠ 0 := by have := r.den_nz; exact_mod_cast this
  generalize (r.num : Rat) = n at *
  generalize (r.den : Rat) = m at *
  grind
theorem val0 (x : Q d) : mkQ d (p0 x) (q0 x) (s0 x) = x := by
  have h1 : (x.a.den : Rat) ≠ 0 := by have := x.a.den_nz; exact_mod_cast this
  have h2 : (x.b.den : Rat) ≠ 0 := by have := x.b.den_nz; exact_mod_cast this
  have e1 := rat_eq x.a
  have e2 := rat_eq x.b
  unfold mkQ p0 q0 s0
  apply ext'
  · show ((x.a.num * x.b.den : Int) : Rat) / ((x.a.den * x.b.den : Int) : Rat) = x.a
    rw [Rat.intCast_mul, Rat.intCast_mul, Rat.intCast_natCast, Rat.intCast_natCast, ← e1]
    grind
  · show ((x.b.num * x.a.den : Int) : Rat) / ((x.a.den * x.b.den : Int) : Rat) = x.b
    rw [Rat.intCast_mul, Rat.intCast_mul, Rat.intCast_natCast, Rat.intCast_natCast, ← e2]
    grind
namespace Q
def p (x : Q d) : Int := p0 x / dv (p0 x) (q0 x) (s0 x)
def q (x : Q d) : Int := q0 x / dv (p0 x) (q0 x) (s0 x)
def s (x : Q d) : Int := s0 x / dv (p0 x) (q0 x) (s0 x)
end Q
theorem x_nf (x : Q d) : Nf x.p x.q x.s := nz_nf (s0_ne x)
theorem x_val (x : Q d) : mkQ d x.p x.q x.s = x := (nz_val (s0_ne x)).trans (val0 x)
theorem s_pos (x : Q d) : 0 < x.s := (x_nf x).pos
/-- the triple of a number is the only one in lowest terms -/
theorem nf_rep {p q s : Int} (h : Nf p q s) : (mkQ d p q s).p = p ∧ (mkQ d p q s).q = q ∧ (mkQ d p q s).s = s := by
  have h2 := x_nf (mkQ d p q s)
  have h3 := x_val (mkQ d p q s)
  obtain ⟨e1, e2⟩ := (mkQ_eq_iff (by have := h2.pos; omega) (by have := h.pos; omega)).mp h3
  exact nf_eq h2 h e1 e2
theorem nz_rep {p q s : Int} (h : s ≠ 0) : p / dv p q s = (mkQ d p q s).p ∧ q / dv p q s = (mkQ d p q s).q ∧ s / dv p q s = (mkQ d p q s).s := by
  have h1 := nf_rep (d := d) (nz_nf (p := p) (q := q) h)
  rw [nz_val h] at h1
  exact ⟨h1.1.symm, h1.2.1.symm, h1.2.2.symm⟩
theorem rep_inj {x y : Q d} (h1 : x.p = y.p) (h2 : x.q = y.q) (h3 : x.s = y.s) : x = y := by
  rw [← x_val x, ← x_val y, h1, h2, h3]
theorem xa (x : Q d) : x.a * (x.s : Rat) = (x.p : Rat) := by
  have h := congrArg Q.a (x_val x)
  have hs := cast_ne (show x.s ≠ 0 by have := s_pos x; omega)
  have h : (x.p : Rat) / x.s = x.a := h
  grind
theorem xb (x : Q d) : x.b * (x.s : Rat) = (x.q : Rat) := by
  have h := congrArg Q.b (x_val x)
  have hs := cast_ne (show x.s ≠ 0 by have := s_pos x; omega)
  have h : (x.q : Rat) / x.s = x.b := h
  grind
theorem sq_ne (x : Q d) : (x.s : Rat) ≠ 0 := cast_ne (by have := s_pos x; omega)
end Qu

set_option Elab.async false
set_option linter.all false
set_option maxRecDepth 100000
/-! Q4: reckoning with triples. -/
namespace Qu
open Lean.Grind
variable {d : Nat}
theorem mkQ_of {x : Q d} {p q s : Int} (hs : s ≠ 0) (h1 : x.a * (s : Rat) = (p : Rat)) (h2 : x.b * (s : Rat) = (q : Rat)) : mkQ d p q s = x := by
  have h := cast_ne hs
  unfold mkQ
  apply ext'
  · show (p : Rat) / (s : Rat) = x.a
    grind
  · show (q : Rat) / (s : Rat) = x.b
    grind
theorem t_plus (x y : Q d) : mkQ d (x.p * y.s + y.p * x.s) (x.q * y.s + y.q * x.s) (x.s * y.s) = x + y := by
  have h1 := xa x; have h2 := xa y; have h3 := xb x; have h4 := xb y
  have hs : x.s * y.s ≠ 0 := by have := Int.mul_pos (s_pos x) (s_pos y); omega
  apply mkQ_of hs
  · rw [Q.add_a, Rat.intCast_add, Rat.intCast_mul, Rat.intCast_mul, Rat.intCast_mul]; grind
  · rw [Q.add_b, Rat.intCast_add, Rat.intCast_mul, Rat.intCast_mul, Rat.intCast_mul]; grind
theorem t_minus (x y : Q d) : mkQ d (x.p * y.s + -y.p * x.s) (x.q * y.s + -y.q * x.s) (x.s * y.s) = x - y := by
  have h1 := xa x; have h2 := xa y; have h3 := xb x; have h4 := xb y
  have hs : x.s * y.s ≠ 0 := by have := Int.mul_pos (s_pos x) (s_pos y); omega
  apply mkQ_of hs
  · rw [Q.sub_a, Rat.intCast_add, Rat.intCast_mul, Rat.intCast_mul, Rat.intCast_mul, Rat.intCast_neg]; grind
  · rw [Q.sub_b, Rat.intCast_add, Rat.intCast_mul, Rat.intCast_mul, Rat.intCast_mul, Rat.intCast_neg]; grind
theorem t_times (x y : Q d) : mkQ d (x.p * y.p + (d : Int) * x.q * y.q) (x.p * y.q + x.q * y.p) (x.s * y.s) = x * y := by
  have h1 := xa x; have h2 := xa y; have h3 := xb x; have h4 := xb y
  have hs : x.s * y.s ≠ 0 := by have := Int.mul_pos (s_pos x) (s_pos y); omega
  apply mkQ_of hs
  · rw [Q.mul_a, Rat.intCast_add, Rat.intCast_mul, Rat.intCast_mul, Rat.intCast_mul, Rat.intCast_mul, ← h1, ← h2, ← h3, ← h4, Rat.intCast_natCast]; grind
  · rw [Q.mul_b, Rat.intCast_add, Rat.intCast_mul, Rat.intCast_mul, Rat.intCast_mul, ← h1, ← h2, ← h3, ← h4]; grind
theorem nrm_int (x : Q d) : x.nrm * ((x.s * x.s : Int) : Rat) = ((x.p * x.p - (d : Int) * x.q * x.q : Int) : Rat) := by
  have h1 := xa x; have h3 := xb x
  unfold Q.nrm
  rw [Rat.intCast_sub, Rat.intCast_mul, Rat.intCast_mul, Rat.intCast_mul, Rat.intCast_mul, ← h1, ← h3, Rat.intCast_natCast]; grind
theorem nrm_int_ne [NSq d] {x : Q d} (h : x ≠ 0) : x.p * x.p - (d : Int) * x.q * x.q ≠ 0 := fun e => by
  have h1 := nrm_int x
  rw [e] at h1
  have h2 := Q.nrm_ne h
  have h3 : ((x.s * x.s : Int) : Rat) ≠ 0 := cast_ne (by have := Int.mul_pos (s_pos x) (s_pos x); omega)
  have h4 : ((0 : Int) : Rat) = 0 := rfl
  rw [h4] at h1
  grind
theorem t_inv [NSq d] {x : Q d} (h : x ≠ 0) : mkQ d (x.s * x.p) (-x.s * x.q) (x.p * x.p - (d : Int) * x.q * x.q) = x⁻¹ := by
  have h1 := xa x; have h3 := xb x
  have h5 := nrm_int x
  have h2 := Q.nrm_ne h
  have hs := sq_ne x
  apply mkQ_of (nrm_int_ne h)
  · rw [← h5, Q.inv_a, Rat.intCast_mul, Rat.intCast_mul, ← h1]; grind
  · rw [← h5, Q.inv_b, Rat.intCast_mul, Rat.intCast_mul, Rat.intCast_neg, ← h3]; grind
theorem conj_rep (x : Q d) : x.conj.p = x.p ∧ x.conj.q = -x.q ∧ x.conj.s = x.s := by
  have h := x_nf x
  have hn : Nf x.p (-x.q) x.s := ⟨h.pos, by have := h.one; unfold g3 at *; rwa [Int.gcd_neg]⟩
  have e : mkQ d x.p (-x.q) x.s = x.conj := by
    have h1 := xa x; have h3 := xb x
    refine mkQ_of (by have := h.pos; omega) h1 ?_
    show -x.b * (x.s : Rat) = _
    rw [Rat.intCast_neg, ← h3]; grind
  have := nf_rep (d := d) hn
  rwa [e] at this
theorem neg_rep (x : Q d) : (-x).p = -x.p ∧ (-x).q = -x.q ∧ (-x).s = x.s := by
  have h := x_nf x
  have hn : Nf (-x.p) (-x.q) x.s := ⟨h.pos, by have := h.one; unfold g3 at *; rwa [Int.gcd_neg, Int.neg_gcd]⟩
  have e : mkQ d (-x.p) (-x.q) x.s = -x := by
    have h1 := xa x; have h3 := xb x
    refine mkQ_of (by have := h.pos; omega) ?_ ?_
    · rw [Q.neg_a, Rat.intCast_neg, ← h1]; grind
    · rw [Q.neg_b, Rat.intCast_neg, ← h3]; grind
  have := nf_rep (d := d) hn
  rwa [e] at this
theorem rep_of {p q s : Int} {x : Q d} (h : Nf p q s) (e : mkQ d p q s = x) : x.p = p ∧ x.q = q ∧ x.s = s := by
  have := nf_rep (d := d) h
  rwa [e] at this
theorem int_rep (n : Int) : ((n : Q d)).p = n ∧ ((n : Q d)).q = 0 ∧ ((n : Q d)).s = 1 := by
  refine rep_of ⟨by omega, by unfold g3; simp⟩ ?_
  refine mkQ_of (by omega) ?_ ?_
  · show (n : Rat) * ((1 : Int) : Rat) = n
    have : ((1 : Int) : Rat) = 1 := rfl
    rw [this]; grind
  · show (0 : Rat) * ((1 : Int) : Rat) = ((0 : Int) : Rat)
    have : ((0 : Int) : Rat) = 0 := rfl
    rw [this]; grind
/-! the sign -/
theorem pos_int [NSq d] (x : Q d) : 0 < x ↔ (0 < x.p ∧ 0 < x.p * x.p - (d : Int) * x.q * x.q) ∨ (0 < x.q ∧ x.p * x.p - (d : Int) * x.q * x.q < 0) := by
  have h1 := xa x; have h3 := xb x
  have h5 := nrm_int x
  have hs : (0 : Rat) < (x.s : Rat) := by exact_mod_cast s_pos x
  have hss : (0 : Rat) < ((x.s * x.s : Int) : Rat) := by exact_mod_cast Int.mul_pos (s_pos x) (s_pos x)
  have e : 0 < x ↔ Q.pos x := by
    show Q.pos (x - 0) ↔ _
    have : x - 0 = x := by grind
    rw [this]
  have key : ∀ (u v : Rat) (z : Int), 0 < v → u * v = (z : Rat) → ((0 < u ↔ 0 < z) ∧ (u < 0 ↔ z < 0)) := by
    intro u v z hv hz
    have zl : (0 < z ↔ (0 : Rat) < (z : Rat)) := by
      constructor
      · intro h; exact_mod_cast h
      · intro h; exact_mod_cast h
    have zg : (z < 0 ↔ (z : Rat) < 0) := by
      constructor
      · intro h; exact_mod_cast h
      · intro h; exact_mod_cast h
    rw [zl, zg, ← hz]
    constructor
    · constructor
      · intro h; exact Rat.mul_pos h hv
      · intro h
        rcases (show 0 < u ∨ u = 0 ∨ 0 < -u by grind) with h2 | h2 | h2
        · exact h2
        · subst h2; grind
        · have := Rat.mul_pos h2 hv; grind
    · constructor
      · intro h
        have := Rat.mul_pos (show 0 < -u by grind) hv
        grind
      · intro h
        rcases (show u < 0 ∨ u = 0 ∨ 0 < u by grind) with h2 | h2 | h2
        · exact h2
        · subst h2; grind
        · have := Rat.mul_pos h2 hv; grind
  rw [e]
  unfold Q.pos
  rw [(key _ _ _ hs h1).1, (key _ _ _ hs h3).1, (key _ _ _ hss h5).1, (key _ _ _ hss h5).2]
theorem zero_int {x : Q d} : x = 0 ↔ x.p = 0 ∧ x.q = 0 := by
  have h1 := xa x; have h3 := xb x
  have hs := sq_ne x
  constructor
  · intro h
    have e := int_rep (d := d) 0
    have e0 : ((0 : Int) : Q d) = 0 := rfl
    rw [e0, ← h] at e
    exact ⟨e.1, e.2.1⟩
  · rintro ⟨a, b⟩
    have a2 : (x.p : Rat) = 0 := by rw [a]; rfl
    have b2 : (x.q : Rat) = 0 := by rw [b]; rfl
    apply ext'
    · show x.a = 0; grind
    · show x.b = 0; grind
/-- the sign as a number -/
noncomputable def sgn [NSq d] (x : Q d) : Int := open Classical in if 0 < x then 1 else if x = 0 then 0 else -1
end Qu

set_option Elab.async false
set_option linter.all false
set_option maxRecDepth 100000
set_option maxHeartbeats 4000000
/-! PVN: rules over whole numbers of any sign, and lengths as data. -/
namespace PV
open PySem L2 Qu
abbrev sI (i : Int) : Option R := some (false, .int i)
theorem N_int (n : Nat) : N n = .int (n : Int) := Eq.trans rfl (Eq.refl _)
theorem i_add (a b : Int) : evBin .add (.int a) (.int b) = some (false, .int (a + b)) := Eq.trans rfl (Eq.refl _)
theorem i_sub (a b : Int) : evBin .sub (.int a) (.int b) = some (false, .int (a - b)) := Eq.trans rfl (Eq.refl _)
theorem i_mul (a b : Int) : evBin .mul (.int a) (.int b) = if mulOk a b = true then some (false, .int (a * b)) else none := Eq.trans rfl (Eq.refl _)
theorem i_fdiv (a b : Int) : evBin .fdiv (.int a) (.int b) = if divOk b = true then some (false, .int (a.fdiv b)) else none := Eq.trans rfl (Eq.refl _)
theorem i_mod {a b : Int} (h : 0 < b) : evBin .mod (.int a) (.int b) = some (false, .int (a % b)) := by
  show (if decide (0 < b) = true then some (false, PyData.int (a % b)) else none) = _
  rw [if_pos (decide_eq_true h)]
theorem i_neg (a : Int) : evNeg (.int a) = some (false, .int (-a)) := Eq.trans rfl (Eq.refl _)
theorem i_abs (a : Int) : evBI .abs [.int a] = some (false, .int (a.natAbs : Int)) := by
  show some (false, PyData.int (if a < 0 then -a else a)) = _
  congr 3
  split <;> omega
theorem i_intb (k : Bool) : evBI .int [.bool k] = some (false, .int (if k then 1 else 0)) := Eq.trans rfl (Eq.refl _)
theorem i_inti (k : Int) : evBI .int [.int k] = some (false, .int k) := Eq.trans rfl (Eq.refl _)
theorem i_eq (a b : Int) : evCmp .eq (.int a) (.int b) = some (decide (a = b)) := Eq.trans rfl (Eq.refl _)
theorem i_ne (a b : Int) : evCmp .ne (.int a) (.int b) = some (!decide (a = b)) := Eq.trans rfl (Eq.refl _)
theorem i_lt (a b : Int) : evCmp .lt (.int a) (.int b) = some (decide (a < b)) := Eq.trans rfl (Eq.refl _)
theorem i_le (a b : Int) : evCmp .le (.int a) (.int b) = some (decide (a ≤ b)) := Eq.trans rfl (Eq.refl _)
theorem i_gt (a b : Int) : evCmp .gt (.int a) (.int b) = some (decide (b < a)) := Eq.trans rfl (Eq.refl _)
theorem i_ge (a b : Int) : evCmp .ge (.int a) (.int b) = some (decide (b ≤ a)) := Eq.trans rfl (Eq.refl _)
theorem i_asI (i : Int) : asI (.int i) = some i := Eq.trans rfl (Eq.refl _)
theorem log2_lt' {a k : Nat} (h : a < 2 ^ k) (h0 : 0 < k) : a.log2 < k := by
  by_cases h1 : a = 0
  · subst h1; rw [Nat.log2_zero]; exact h0
  · exact (Nat.log2_lt h1).mpr h
theorem mulOk_b {a b : Int} {k l : Nat} (ha : a.natAbs < 2 ^ k) (hb : b.natAbs < 2 ^ l) (h : k + l ≤ 900000) : mulOk a b = true := by
  have h1 := log2_lt' (Nat.lt_of_lt_of_le ha (Nat.pow_le_pow_right (by decide) (Nat.le_succ k))) (Nat.succ_pos k)
  have h2 := log2_lt' (Nat.lt_of_lt_of_le hb (Nat.pow_le_pow_right (by decide) (Nat.le_succ l))) (Nat.succ_pos l)
  unfold mulOk
  rw [Nat.blt_eq]
  omega
theorem divOk_b {b : Int} {k : Nat} (h0 : b ≠ 0) (hb : b.natAbs < 2 ^ k) (h : k ≤ 8900) : divOk b = true := by
  have h2 := log2_lt' (Nat.lt_of_lt_of_le hb (Nat.pow_le_pow_right (by decide) (Nat.le_succ k))) (Nat.succ_pos k)
  unfold divOk
  rw [Bool.and_eq_true, decide_eq_true_eq, Nat.blt_eq]
  exact ⟨h0, by omega⟩
/-! Euclid's way -/
theorem gcd_loop {c : Sl → Option Bool} {f : Sl → Option Out} (hc : ∀ a b : Nat, c [sI a, sI b] = some (decide (0 < b))) (hf : ∀ a b : Nat, 0 < b → f [sI a, sI b] = some (.nx [sI b, sI ((a % b : Nat) : Int)])) :
    ∀ (k : Nat) (a b n : Nat), b < 2 ^ k → 2 * k + 1 ≤ n → whileGo c f n [sI a, sI b] = some (.nx [sI (Nat.gcd a b : Nat), sI 0])
  | 0, a, b, n, hb, hn => by
    obtain rfl : b = 0 := by omega
    obtain ⟨n, rfl⟩ : ∃ m, n = m + 1 := ⟨n - 1, by omega⟩
    rw [wh_false (hc a 0), Nat.gcd_zero_right]
    rfl
  | k + 1, a, b, n, hb, hn => by
    obtain ⟨n, rfl⟩ : ∃ m, n = m + 1 := ⟨n - 1, by omega⟩
    by_cases h0 : b = 0
    · subst h0
      rw [wh_false (hc a 0), Nat.gcd_zero_right]
      rfl
    have hp : 0 < b := Nat.pos_of_ne_zero h0
    rw [wh_true ((hc a b).trans (by rw [decide_eq_true hp])) (hf a b hp)]
    have hr := Nat.mod_lt a hp
    have e : Nat.gcd a b = Nat.gcd b (a % b) := by rw [Nat.gcd_comm a b, Nat.gcd_rec b a, Nat.gcd_comm]
    rw [e]
    by_cases h1 : a % b < 2 ^ k
    · exact gcd_loop hc hf k b (a % b) n h1 (by omega)
    · obtain ⟨n, rfl⟩ : ∃ m, n = m + 1 := ⟨n - 1, by omega⟩
      have hrp : 0 < a % b := Nat.lt_of_lt_of_le (Nat.pow_pos (by decide)) (Nat.le_of_not_lt h1)
      rw [wh_true ((hc b (a % b)).trans (by rw [decide_eq_true hrp])) (hf b (a % b) hrp)]
      have e2 : Nat.gcd b (a % b) = Nat.gcd (a % b) (b % (a % b)) := by rw [Nat.gcd_comm b, Nat.gcd_rec (a % b) b, Nat.gcd_comm]
      rw [e2]
      refine gcd_loop hc hf k (a % b) (b % (a % b)) n ?_ (by omega)
      have h2 : b % (a % b) = b - a % b := by
        rw [Nat.mod_eq_sub_mod (by omega), Nat.mod_eq_of_lt]
        rw [Nat.pow_succ] at hb
        omega
      rw [h2]
      rw [Nat.pow_succ] at hb
      omega
theorem fuel_gcd {k : Nat} (h : k ≤ 9000) : 2 * k + 1 ≤ FUEL := by unfold FUEL; omega
/-! lengths -/
section
variable {d : Nat}
def L (x : Q d) : PyData := .tuple [.int x.p, .int x.q, .int x.s]
abbrev sQ (x : Q d) : Option R := some (false, L x)
theorem L_def (x : Q d) : L x = .tuple [.int x.p, .int x.q, .int x.s] := Eq.trans rfl (Eq.refl _)
theorem L_0 (x : Q d) : evIx (L x) (.int 0) = some (false, .int x.p) := Eq.trans rfl (Eq.refl _)
theorem L_1 (x : Q d) : evIx (L x) (.int 1) = some (false, .int x.q) := Eq.trans rfl (Eq.refl _)
theorem L_2 (x : Q d) : evIx (L x) (.int 2) = some (false, .int x.s) := Eq.trans rfl (Eq.refl _)
theorem L_asg (a b c : G) (x : Q d) (ρ : Sl) : asg (.thr a b c) (L x) ρ = (asg a (.int x.p) ρ).bind fun ρ1 => (asg b (.int x.q) ρ1).bind fun ρ2 => asg c (.int x.s) ρ2 := Eq.trans rfl (Eq.refl _)
theorem L_int (n : Int) : PyData.tuple [.int n, .int 0, .int 1] = L ((n : Int) : Q d) := by
  obtain ⟨h1, h2, h3⟩ := int_rep (d := d) n
  rw [L_def, h1, h2, h3]
theorem L_nf {p q s : Int} (h : Nf p q s) : PyData.tuple [.int p, .int q, .int s] = L (mkQ d p q s) := by
  obtain ⟨h1, h2, h3⟩ := nf_rep (d := d) h
  rw [L_def, h1, h2, h3]
theorem L_nz {p q s c : Int} (h : s ≠ 0) (hc : c = dv p q s) : PyData.tuple [.int (p.fdiv c), .int (q.fdiv c), .int (s.fdiv c)] = L (mkQ d p q s) := by
  subst hc
  obtain ⟨h1, h2, h3⟩ := nz_rep (d := d) (p := p) (q := q) h
  obtain ⟨d1, d2, d3⟩ := dv_dvd p q s
  rw [Int.fdiv_eq_ediv_of_dvd d1, Int.fdiv_eq_ediv_of_dvd d2, Int.fdiv_eq_ediv_of_dvd d3, h1, h2, h3, L_def]
theorem L_inj {x y : Q d} : L x = L y ↔ x = y := by
  constructor
  · intro h
    rw [L_def, L_def] at h
    injection h with h
    injection h with h1 h
    injection h with h2 h
    injection h with h3 h
    injection h1 with h1
    injection h2 with h2
    injection h3 with h3
    exact rep_inj h1 h2 h3
  · intro h; rw [h]
theorem eqv_int (a b : Int) : PyData.eqv (.int a) (.int b) = decide (a = b) := by
  show (a == b) = _
  rfl
open Classical in
theorem L_eqv (x y : Q d) : PyData.eqv (L x) (L y) = decide (x = y) := by
  have h : PyData.eqv (L x) (L y) = (decide (x.p = y.p) && (decide (x.q = y.q) && (decide (x.s = y.s) && true))) := by
    rw [L_def, L_def]
    simp only [PyData.eqv, PyData.eqvAll]
    rfl
  rw [h, Bool.eq_iff_iff]
  simp only [Bool.and_eq_true, decide_eq_true_eq, Bool.and_true]
  exact ⟨fun ⟨a, b, c⟩ => rep_inj a b c, fun e => by rw [e]; exact ⟨rfl, rfl, rfl⟩⟩
theorem L_dok (x : Q d) : dok (L x) = true := by
  rw [L_def]; rfl
open Classical in
theorem L_eq (x y : Q d) : evCmp .eq (L x) (L y) = some (decide (x = y)) := by
  have h : evCmp .eq (L x) (L y) = if dok (L x) && dok (L y) then some (PyData.eqv (L x) (L y)) else none := rfl
  rw [h, L_dok, L_dok, L_eqv]; rfl
open Classical in
theorem L_ne (x y : Q d) : evCmp .ne (L x) (L y) = some (!decide (x = y)) := by
  have h : evCmp .ne (L x) (L y) = if dok (L x) && dok (L y) then some (!PyData.eqv (L x) (L y)) else none := rfl
  rw [h, L_dok, L_dok, L_eqv]; rfl
/-- size -/
structure Sz (k : Nat) (x : Q d) : Prop where
  p : x.p.natAbs < 2 ^ k
  q : x.q.natAbs < 2 ^ k
  s : x.s.natAbs < 2 ^ k
theorem Sz.mono {k l : Nat} {x : Q d} (h : Sz k x) (hl : k ≤ l) : Sz l x := by
  have e : 2 ^ k ≤ 2 ^ l := Nat.pow_le_pow_right (by decide) hl
  exact ⟨Nat.lt_of_lt_of_le h.p e, Nat.lt_of_lt_of_le h.q e, Nat.lt_of_lt_of_le h.s e⟩
/-- a number that has a form p, q, s of a size -/
theorem Sz.of {k : Nat} {p q s : Int} (h0 : s ≠ 0) (h1 : p.natAbs < 2 ^ k) (h2 : q.natAbs < 2 ^ k) (h3 : s.natAbs < 2 ^ k) : Sz k (mkQ d p q s) := by
  obtain ⟨e1, e2, e3⟩ := nz_rep (d := d) (p := p) (q := q) h0
  obtain ⟨d1, d2, d3⟩ := dv_dvd p q s
  have key : ∀ {a c : Int}, c ∣ a → (a / c).natAbs ≤ a.natAbs := fun {a c} h => by
    obtain ⟨b, rfl⟩ := h
    by_cases hc : c = 0
    · subst hc; simp
    · rw [Int.mul_ediv_cancel_left _ hc, Int.natAbs_mul]
      exact Nat.le_mul_of_pos_left _ (by omega)
  exact ⟨by rw [← e1]; exact Nat.lt_of_le_of_lt (key d1) h1, by rw [← e2]; exact Nat.lt_of_le_of_lt (key d2) h2, by rw [← e3]; exact Nat.lt_of_le_of_lt (key d3) h3⟩
theorem dv_le {p q s : Int} (h0 : s ≠ 0) : (dv p q s).natAbs ≤ s.natAbs := by
  obtain ⟨_, _, b, e⟩ := dv_dvd p q s
  have : s.natAbs = (dv p q s).natAbs * b.natAbs := by rw [← Int.natAbs_mul, ← e]
  rw [this]
  refine Nat.le_mul_of_pos_right _ ?_
  have hb : b ≠ 0 := fun z => h0 (by rw [e, z, Int.mul_zero])
  omega
end
theorem nat_mul_lt {a b : Int} {k l : Nat} (ha : a.natAbs < 2 ^ k) (hb : b.natAbs < 2 ^ l) : (a * b).natAbs < 2 ^ (k + l) := by
  rw [Int.natAbs_mul, Nat.pow_add]
  exact Nat.mul_lt_mul'' ha hb
theorem nat_add_lt {a b : Int} {k : Nat} (ha : a.natAbs < 2 ^ k) (hb : b.natAbs < 2 ^ k) : (a + b).natAbs < 2 ^ (k + 1) := by
  rw [Nat.pow_succ]; omega
theorem nat_lt_mono {a : Int} {k l : Nat} (ha : a.natAbs < 2 ^ k) (h : k ≤ l) : a.natAbs < 2 ^ l := Nat.lt_of_lt_of_le ha (Nat.pow_le_pow_right (by decide) h)
end PV
namespace PV
open PySem L2 Qu
section
variable {d : Nat}
/-- the sign, by the three numbers -/
theorem sgn_pos [NSq d] {x : Q d} (h : 0 < x) : sgn x = 1 := by unfold sgn; rw [if_pos h]
theorem sgn_zero [NSq d] : sgn (0 : Q d) = 0 := by
  unfold sgn
  rw [if_neg (by grind), if_pos rfl]
theorem sgn_neg [NSq d] {x : Q d} (h : x < 0) : sgn x = -1 := by
  unfold sgn
  rw [if_neg (by grind), if_neg (by grind)]
theorem sgn_cases [NSq d] (x : Q d) : (0 < x ∧ sgn x = 1) ∨ (x = 0 ∧ sgn x = 0) ∨ (x < 0 ∧ sgn x = -1) := by
  rcases (show 0 < x ∨ x = 0 ∨ x < 0 by grind) with h | h | h
  · exact .inl ⟨h, sgn_pos h⟩
  · exact .inr (.inl ⟨h, by rw [h]; exact sgn_zero⟩)
  · exact .inr (.inr ⟨h, sgn_neg h⟩)
theorem sgn_int [NSq d] (x : Q d) : sgn x = if 0 ≤ x.p ∧ 0 ≤ x.q then (if 0 < x.p + x.q then 1 else 0) else if x.p ≤ 0 ∧ x.q ≤ 0 then -1 else (if x.p < 0 then -1 else 1) * (if x.p * x.p - (d : Int) * x.q * x.q < 0 then -1 else 1) := by
  have hp := pos_int x
  have hz := zero_int (x := x)
  have hn : x ≠ 0 → x.p * x.p - (d : Int) * x.q * x.q ≠ 0 := fun h => nrm_int_ne h
  have mul0 : x.p = 0 → x.p * x.p = 0 := fun h => by rw [h]; rfl
  have mul1 : x.q = 0 → (d : Int) * x.q * x.q = 0 := fun h => by rw [h]; simp
  have sq : ∀ a : Int, 0 ≤ a * a := fun a => by
    rcases Int.le_total 0 a with h | h
    · exact Int.mul_nonneg h h
    · exact Int.mul_nonneg_of_nonpos_of_nonpos h h
  have hA := sq x.p
  have hB : 0 ≤ (d : Int) * x.q * x.q := by rw [Int.mul_assoc]; exact Int.mul_nonneg (by omega) (sq x.q)
  generalize x.p * x.p = A at *
  generalize (d : Int) * x.q * x.q = B at *
  have key : ∀ (s : Int), (0 < x → s = 1) → (x = 0 → s = 0) → (x ≠ 0 → ¬ 0 < x → s = -1) → sgn x = s := by
    intro s h1 h2 h3
    rcases sgn_cases x with ⟨h, e⟩ | ⟨h, e⟩ | ⟨h, e⟩
    · rw [e, h1 h]
    · rw [e, h2 h]
    · rw [e, h3 (by grind) (by grind)]
  apply key
  · intro h
    have h2 := hp.mp h
    have hne : x ≠ 0 := by grind
    have hne2 : ¬ (x.p = 0 ∧ x.q = 0) := fun z => hne (hz.mpr z)
    by_cases c1 : 0 ≤ x.p ∧ 0 ≤ x.q
    · rw [if_pos c1, if_pos (by omega)]
    · rw [if_neg c1]
      by_cases c2 : x.p ≤ 0 ∧ x.q ≤ 0
      · exfalso; omega
      · rw [if_neg c2]
        by_cases c3 : x.p < 0
        · rw [if_pos c3, if_pos (by omega)]; rfl
        · rw [if_neg c3, if_neg (by omega)]; rfl
  · intro h
    obtain ⟨a, b⟩ := hz.mp h
    rw [if_pos (by omega), if_neg (by omega)]
  · intro h0 h
    have h2 := mt hp.mpr h
    have h3 := hn h0
    have hne2 : ¬ (x.p = 0 ∧ x.q = 0) := fun z => h0 (hz.mpr z)
    by_cases c1 : 0 ≤ x.p ∧ 0 ≤ x.q
    · exfalso; omega
    · rw [if_neg c1]
      by_cases c2 : x.p ≤ 0 ∧ x.q ≤ 0
      · rw [if_pos c2]
      · rw [if_neg c2]
        by_cases c3 : x.p < 0
        · rw [if_pos c3, if_neg (by omega)]; rfl
        · rw [if_neg c3, if_pos (by omega)]; rfl
theorem over_form [NSq d] {x y : Q d} (hy : y ≠ 0) : (x * y.conj).s * (y * y.conj).p ≠ 0 ∧ mkQ d ((x * y.conj).p * (y * y.conj).s) ((x * y.conj).q * (y * y.conj).s) ((x * y.conj).s * (y * y.conj).p) = x / y := by
  have hb : (y * y.conj).b = 0 := by
    show y.a * -y.b + y.b * y.a = 0
    grind
  have ha : (y * y.conj).a = y.nrm := by
    show y.a * y.a + (d : Rat) * (y.b * -y.b) = y.nrm
    unfold Q.nrm
    grind
  have hn := Q.nrm_ne hy
  have hs := sq_ne (y * y.conj)
  have h1 := xa (y * y.conj)
  have hp : ((y * y.conj).p : Rat) ≠ 0 := by rw [← h1, ha]; grind
  have hp2 : (y * y.conj).p ≠ 0 := fun e => hp (by rw [e]; rfl)
  have hs2 := s_pos (x * y.conj)
  have h0 : (x * y.conj).s * (y * y.conj).p ≠ 0 := fun e => by
    rcases Int.mul_eq_zero.mp e with e | e
    · omega
    · exact hp2 e
  refine ⟨h0, ?_⟩
  have key : (x / y) * (y * y.conj) = x * y.conj := by grind
  have ka := congrArg Q.a key
  have kb := congrArg Q.b key
  rw [Q.mul_a, hb] at ka
  rw [Q.mul_b, hb] at kb
  have g1 := xa (x * y.conj)
  have g2 := xb (x * y.conj)
  apply mkQ_of h0
  · rw [Rat.intCast_mul, Rat.intCast_mul, ← g1, ← h1, ← ka]; grind
  · rw [Rat.intCast_mul, Rat.intCast_mul, ← g2, ← h1, ← kb]; grind
end
end PV

set_option Elab.async false
set_option linter.all false
set_option maxRecDepth 100000
set_option maxHeartbeats 4000000
/-! PVW: numbers of a common denominator, in bounds. -/
namespace PV
open PySem L2 Qu
section
variable {d : Nat}
/-- S times the number has whole parts of at most B -/
def Dn (S B : Nat) (x : Q d) : Prop := ∃ m n : Int, x.a * (S : Rat) = (m : Rat) ∧ x.b * (S : Rat) = (n : Rat) ∧ m.natAbs ≤ B ∧ n.natAbs ≤ B
theorem natR {S : Nat} (h : 0 < S) : ((S : Int) : Rat) ≠ 0 := cast_ne (by omega)
theorem Dn.sz {S B k : Nat} {x : Q d} (h : Dn S B x) (h0 : 0 < S) (hS : S < 2 ^ k) (hB : B < 2 ^ k) : Sz k x := by
  obtain ⟨m, n, h1, h2, h3, h4⟩ := h
  have e : mkQ d m n (S : Int) = x := mkQ_of (by omega) h1 h2
  rw [← e]
  exact Sz.of (by omega) (by omega) (by omega) (by omega)
theorem Dn.mono {S B C : Nat} {x : Q d} (h : Dn S B x) (hB : B ≤ C) : Dn S C x := by
  obtain ⟨m, n, h1, h2, h3, h4⟩ := h
  exact ⟨m, n, h1, h2, by omega, by omega⟩
theorem Dn.add {S B C : Nat} {x y : Q d} (h : Dn S B x) (g : Dn S C y) : Dn S (B + C) (x + y) := by
  obtain ⟨m, n, h1, h2, h3, h4⟩ := h
  obtain ⟨m', n', g1, g2, g3, g4⟩ := g
  refine ⟨m + m', n + n', ?_, ?_, by omega, by omega⟩
  · rw [Q.add_a, Rat.intCast_add, ← h1, ← g1]; grind
  · rw [Q.add_b, Rat.intCast_add, ← h2, ← g2]; grind
theorem Dn.neg {S B : Nat} {x : Q d} (h : Dn S B x) : Dn S B (-x) := by
  obtain ⟨m, n, h1, h2, h3, h4⟩ := h
  refine ⟨-m, -n, ?_, ?_, by omega, by omega⟩
  · rw [Q.neg_a, Rat.intCast_neg, ← h1]; grind
  · rw [Q.neg_b, Rat.intCast_neg, ← h2]; grind
theorem Dn.sub {S B C : Nat} {x y : Q d} (h : Dn S B x) (g : Dn S C y) : Dn S (B + C) (x - y) := by
  have e : x - y = x + -y := by grind
  rw [e]; exact h.add g.neg
theorem Dn.conj {S B : Nat} {x : Q d} (h : Dn S B x) : Dn S B x.conj := by
  obtain ⟨m, n, h1, h2, h3, h4⟩ := h
  refine ⟨m, -n, h1, ?_, by omega, by omega⟩
  show -x.b * (S : Rat) = _
  rw [Rat.intCast_neg, ← h2]; grind
theorem Dn.scale {S B : Nat} {x : Q d} (h : Dn S B x) (k : Nat) : Dn (S * k) (B * k) x := by
  obtain ⟨m, n, h1, h2, h3, h4⟩ := h
  have ek : ((k : Int) : Rat) = (k : Rat) := Rat.intCast_natCast k
  have em : ∀ a : Int, (a * (k : Int)).natAbs = a.natAbs * k := fun a => by rw [Int.natAbs_mul, Int.natAbs_natCast]
  refine ⟨m * k, n * k, ?_, ?_, by rw [em]; exact Nat.mul_le_mul_right k h3, by rw [em]; exact Nat.mul_le_mul_right k h4⟩
  · rw [Rat.intCast_mul, ← h1, Rat.natCast_mul, ek]; grind
  · rw [Rat.intCast_mul, ← h2, Rat.natCast_mul, ek]; grind
theorem Dn.up {S T B k : Nat} {x : Q d} (h : Dn S B x) (e : T = S * k) : Dn T (B * k) x := by subst e; exact h.scale k
theorem Dn.mul {S T B C : Nat} {x y : Q d} (h : Dn S B x) (g : Dn T C y) : Dn (S * T) ((d + 2) * (B * C)) (x * y) := by
  obtain ⟨m, n, h1, h2, h3, h4⟩ := h
  obtain ⟨m', n', g1, g2, g3, g4⟩ := g
  have pr : ∀ {a b : Int} {A C : Nat}, a.natAbs ≤ A → b.natAbs ≤ C → (a * b).natAbs ≤ A * C := fun {a b A C} h1 h2 => by rw [Int.natAbs_mul]; exact Nat.mul_le_mul h1 h2
  refine ⟨m * m' + (d : Int) * (n * n'), m * n' + n * m', ?_, ?_, ?_, ?_⟩
  · rw [Q.mul_a, Rat.intCast_add, Rat.intCast_mul, Rat.intCast_mul, Rat.intCast_mul, ← h1, ← g1, ← h2, ← g2, Rat.natCast_mul, Rat.intCast_natCast]; grind
  · rw [Q.mul_b, Rat.intCast_add, Rat.intCast_mul, Rat.intCast_mul, ← h1, ← g1, ← h2, ← g2, Rat.natCast_mul]; grind
  · have e1 := pr h3 g3
    have e2 := pr h4 g4
    have e3 : ((d : Int) * (n * n')).natAbs ≤ d * (B * C) := by rw [Int.natAbs_mul, Int.natAbs_natCast]; exact Nat.mul_le_mul_left d e2
    rw [Nat.add_mul]
    omega
  · have e1 := pr h3 g4
    have e2 := pr h4 g3
    rw [Nat.add_mul]
    omega
/-- a fraction -/
def F (r : Rat) : Q d := ⟨r, 0⟩
theorem F_add (r t : Rat) : (F r : Q d) + F t = F (r + t) := ext' rfl (by show (0 : Rat) + 0 = 0; grind)
theorem F_mul (r t : Rat) : (F r : Q d) * F t = F (r * t) := ext' (by show r * t + (d : Rat) * (0 * 0) = r * t; grind) (by show r * 0 + 0 * t = (0 : Rat); grind)
theorem F_inj {r t : Rat} : (F r : Q d) = F t ↔ r = t := ⟨fun h => congrArg Q.a h, fun h => by rw [h]⟩
theorem F_zero : (F 0 : Q d) = 0 := rfl
theorem F_form {x : Q d} : mkQ d x.p 0 x.s = F x.a ∧ mkQ d x.q 0 x.s = F x.b := by
  have hs := s_pos x
  have z : ((0 : Int) : Rat) = 0 := rfl
  constructor
  · exact mkQ_of (by omega) (xa x) (by show (0 : Rat) * _ = _; rw [z]; grind)
  · exact mkQ_of (by omega) (xb x) (by show (0 : Rat) * _ = _; rw [z]; grind)
theorem F_form2 {x y : Q d} {p q : Int} {r t : Rat} (h1 : r * (x.s : Rat) = (p : Rat)) (h2 : t * (y.s : Rat) = (q : Rat)) : mkQ d (p * q + (d : Int) * 0 * 0) (p * 0 + 0 * q) (x.s * y.s) = F (r * t) := by
  have hs : x.s * y.s ≠ 0 := by have := Int.mul_pos (s_pos x) (s_pos y); omega
  have z : ((0 : Int) : Rat) = 0 := rfl
  have e1 : p * q + (d : Int) * 0 * 0 = p * q := by simp
  have e2 : p * 0 + 0 * q = 0 := by simp
  rw [e1, e2]
  refine mkQ_of hs ?_ ?_
  · show r * t * _ = _
    rw [Rat.intCast_mul, Rat.intCast_mul, ← h1, ← h2]; grind
  · show (0 : Rat) * _ = _
    rw [z]; grind
theorem Dn.fa {S B : Nat} {x : Q d} (h : Dn S B x) : Dn S B (F x.a : Q d) := by
  obtain ⟨m, n, h1, h2, h3, h4⟩ := h
  exact ⟨m, 0, h1, by show (0 : Rat) * _ = ((0 : Int) : Rat); have z : ((0 : Int) : Rat) = 0 := rfl; rw [z]; grind, h3, by omega⟩
theorem Dn.fb {S B : Nat} {x : Q d} (h : Dn S B x) : Dn S B (F x.b : Q d) := by
  obtain ⟨m, n, h1, h2, h3, h4⟩ := h
  exact ⟨n, 0, h2, by show (0 : Rat) * _ = ((0 : Int) : Rat); have z : ((0 : Int) : Rat) = 0 := rfl; rw [z]; grind, h4, by omega⟩
theorem Dn.zero {S : Nat} : Dn S 0 (0 : Q d) := ⟨0, 0, by show (0 : Rat) * _ = ((0 : Int) : Rat); have z : ((0 : Int) : Rat) = 0 := rfl; rw [z]; grind, by show (0 : Rat) * _ = ((0 : Int) : Rat); have z : ((0 : Int) : Rat) = 0 := rfl; rw [z]; grind, by decide, by decide⟩
/-- of fractions alone the product is smaller -/
theorem Dn.fmul {S T B C : Nat} {r t : Rat} (h : Dn S B (F r : Q d)) (g : Dn T C (F t : Q d)) : Dn (S * T) (B * C) (F (r * t) : Q d) := by
  obtain ⟨m, n, h1, h2, h3, h4⟩ := h
  obtain ⟨m', n', g1, g2, g3, g4⟩ := g
  have h1 : r * (S : Rat) = (m : Rat) := h1
  have g1 : t * (T : Rat) = (m' : Rat) := g1
  refine ⟨m * m', 0, ?_, ?_, by rw [Int.natAbs_mul]; exact Nat.mul_le_mul h3 g3, by omega⟩
  · show r * t * _ = _
    rw [Rat.intCast_mul, ← h1, ← g1, Rat.natCast_mul]; grind
  · show (0 : Rat) * _ = ((0 : Int) : Rat)
    have z : ((0 : Int) : Rat) = 0 := rfl
    rw [z]; grind
end
end PV
namespace PV
open PySem L2 Qu
/-! explicit lists -/
theorem q_cg1 {f : PyData → Option (Option PyData)} : compGo f [] = some [] := Eq.trans rfl (Eq.refl _)
theorem q_cg2 {f : PyData → Option (Option PyData)} {x : PyData} {xs : List PyData} : compGo f (x :: xs) = match f x with
    | none => none
    | some none => compGo f xs
    | some (some y) => match compGo f xs with
      | none => none
      | some ys => some (y :: ys) := Eq.trans rfl (Eq.refl _)
theorem q_ch1 {f : PyData → Option (List PyData)} : compGo2 f [] = some [] := Eq.trans rfl (Eq.refl _)
theorem q_ch2 {f : PyData → Option (List PyData)} {x : PyData} {xs : List PyData} : compGo2 f (x :: xs) = match f x with
    | none => none
    | some zs => match compGo2 f xs with
      | none => none
      | some ys => some (zs ++ ys) := Eq.trans rfl (Eq.refl _)
theorem q_fg1 {g : G} {f : Sl → Option Out} {ρ : Sl} : forGo g f [] ρ = some (.nx ρ) := Eq.trans rfl (Eq.refl _)
theorem q_fg2 {g : G} {f : Sl → Option Out} {x : PyData} {xs : List PyData} {ρ : Sl} : forGo g f (x :: xs) ρ = match asg g x ρ with
    | none => none
    | some ρ1 => match f ρ1 with
      | some (.nx ρ2) => forGo g f xs ρ2
      | some (.ct ρ2) => forGo g f xs ρ2
      | some (.bk ρ2) => some (.nx ρ2)
      | some (.rt r) => some (.rt r)
      | none => none := Eq.trans rfl (Eq.refl _)
theorem q_blk {n : Nat} {b : Ss} {ρ : Sl} : blk n b ρ = evSs n b ρ := Eq.trans rfl (Eq.refl _)
theorem r_1 : evRng [.int 1] = some [.int 0] := by rfl
theorem r_2 : evRng [.int 2] = some [.int 0, .int 1] := by rfl
theorem r_3 : evRng [.int 3] = some [.int 0, .int 1, .int 2] := by rfl
theorem r_4 : evRng [.int 4] = some [.int 0, .int 1, .int 2, .int 3] := by rfl
section
variable {a b c e : PyData} {l : List PyData}
theorem ix_l0 : evIx (.list (a :: l)) (.int 0) = some (false, a) := by
  have : evIx (.list (a :: l)) (.int ((0 : Nat) : Int)) = some (false, a) := by show (L2.atI (a :: l) ((0 : Nat) : Int)).map _ = _; rw [atI_N]; rfl
  exact this
theorem ix_l1 : evIx (.list (a :: b :: l)) (.int 1) = some (false, b) := by
  have : evIx (.list (a :: b :: l)) (.int ((1 : Nat) : Int)) = some (false, b) := by show (L2.atI (a :: b :: l) ((1 : Nat) : Int)).map _ = _; rw [atI_N]; rfl
  exact this
theorem ix_l2 : evIx (.list (a :: b :: c :: l)) (.int 2) = some (false, c) := by
  have : evIx (.list (a :: b :: c :: l)) (.int ((2 : Nat) : Int)) = some (false, c) := by show (L2.atI (a :: b :: c :: l) ((2 : Nat) : Int)).map _ = _; rw [atI_N]; rfl
  exact this
theorem ix_l3 : evIx (.list (a :: b :: c :: e :: l)) (.int 3) = some (false, e) := by
  have : evIx (.list (a :: b :: c :: e :: l)) (.int ((3 : Nat) : Int)) = some (false, e) := by show (L2.atI (a :: b :: c :: e :: l) ((3 : Nat) : Int)).map _ = _; rw [atI_N]; rfl
  exact this
theorem ix_t0 : evIx (.tuple (a :: l)) (.int 0) = some (false, a) := ix_l0
theorem ix_t1 : evIx (.tuple (a :: b :: l)) (.int 1) = some (false, b) := ix_l1
theorem ix_t2 : evIx (.tuple (a :: b :: c :: l)) (.int 2) = some (false, c) := ix_l2
theorem ix_t3 : evIx (.tuple (a :: b :: c :: e :: l)) (.int 3) = some (false, e) := ix_l3
end
/-! sums -/
def rs : List Rat → Rat
  | [] => 0
  | x :: l => x + rs l
theorem rs_append : ∀ l r : List Rat, rs (l ++ r) = rs l + rs r
  | [], r => by show rs r = 0 + rs r; grind
  | x :: l, r => by show x + rs (l ++ r) = x + rs l + rs r; rw [rs_append l r]; grind
theorem rs_perm {l r : List Rat} (h : l.Perm r) : rs l = rs r := by
  induction h with
  | nil => rfl
  | cons x _ ih => show x + _ = x + _; rw [ih]
  | swap x y l => show y + (x + rs l) = x + (y + rs l); grind
  | trans _ _ a b => exact a.trans b
end PV
namespace PV
open PySem L2 Qu
/-! data without truth values: to be the same is to be equal -/
mutual
def hard : PyData → Bool
  | .list xs => hardA xs
  | .tuple xs => hardA xs
  | .none => true
  | .int _ => true
  | .str _ => true
  | .bool _ => false
  | .dict _ => false
def hardA : List PyData → Bool
  | [] => true
  | x :: xs => hard x && hardA xs
end
mutual
theorem hard_plain : ∀ a : PyData, hard a = true → a.plain = true
  | .list xs, h => by
    rw [hard] at h
    have := hardA_plain xs h
    simpa [PyData.plain] using this
  | .tuple xs, h => by
    rw [hard] at h
    have := hardA_plain xs h
    simpa [PyData.plain] using this
  | .none, _ => by simp [PyData.plain]
  | .int _, _ => by simp [PyData.plain]
  | .str _, _ => by simp [PyData.plain]
  | .bool _, h => by simp [hard] at h
  | .dict _, h => by simp [hard] at h
theorem hardA_plain : ∀ a : List PyData, hardA a = true → PyData.plainAll a = true
  | [], _ => by simp [PyData.plainAll]
  | x :: xs, h => by
    rw [hardA, Bool.and_eq_true] at h
    simp only [PyData.plainAll, hard_plain x h.1, hardA_plain xs h.2, Bool.and_true]
end
mutual
theorem eqv_hard : ∀ a b : PyData, hard a = true → hard b = true → PyData.eqv a b = true → a = b
  | .list xs, b, h, h', e => by
    cases b <;> simp only [PyData.eqv] at e <;> try exact absurd e Bool.false_ne_true
    rw [hard] at h h'
    rw [eqvA_hard _ _ h h' e]
  | .tuple xs, b, h, h', e => by
    cases b <;> simp only [PyData.eqv] at e <;> try exact absurd e Bool.false_ne_true
    rw [hard] at h h'
    rw [eqvA_hard _ _ h h' e]
  | .none, b, h, h', e => by
    cases b <;> simp only [PyData.eqv] at e <;> first | rfl | exact absurd e Bool.false_ne_true
  | .int i, b, h, h', e => by
    cases b <;> simp only [PyData.eqv] at e <;> try exact absurd e Bool.false_ne_true
    · simp [hard] at h'
    · rw [eq_of_beq e]
  | .str i, b, h, h', e => by
    cases b <;> simp only [PyData.eqv] at e <;> try exact absurd e Bool.false_ne_true
    rw [eq_of_beq e]
  | .bool _, _, h, _, _ => by simp [hard] at h
  | .dict _, _, h, _, _ => by simp [hard] at h
theorem eqvA_hard : ∀ a b : List PyData, hardA a = true → hardA b = true → PyData.eqvAll a b = true → a = b
  | [], [], _, _, _ => rfl
  | [], _ :: _, _, _, e => by simp [PyData.eqvAll] at e
  | _ :: _, [], _, _, e => by simp [PyData.eqvAll] at e
  | x :: xs, y :: ys, h, h', e => by
    rw [hardA, Bool.and_eq_true] at h h'
    simp only [PyData.eqvAll, Bool.and_eq_true] at e
    rw [eqv_hard x y h.1 h'.1 e.1, eqvA_hard xs ys h.2 h'.2 e.2]
end
structure Hd (k : Nat) (d : PyData) : Prop where
  dp : d.depth ≤ k
  hd : hard d = true
theorem Hd.dok {k : Nat} {d : PyData} (h : Hd k d) (hk : k ≤ 50) : dok d = true := by
  unfold PV.dok
  rw [Bool.and_eq_true]
  exact ⟨Nat.ble_eq_true_of_le (Nat.le_trans h.dp hk), hard_plain d h.hd⟩
theorem hd_int {k : Nat} (i : Int) : Hd k (.int i) := ⟨by simp [PyData.depth], by simp [hard]⟩
theorem hd_none {k : Nat} : Hd k .none := ⟨by simp [PyData.depth], by simp [hard]⟩
theorem hd_all {k : Nat} : ∀ {ds : List PyData}, (∀ d ∈ ds, Hd k d) → PyData.depthAll ds ≤ k ∧ hardA ds = true
  | [], _ => ⟨by simp [PyData.depthAll], by simp [hardA]⟩
  | x :: xs, h => by
    have h1 := h x List.mem_cons_self
    have h2 := hd_all fun y hy => h y (List.mem_cons_of_mem _ hy)
    refine ⟨?_, by rw [hardA, h1.hd, h2.2]; rfl⟩
    simp only [PyData.depthAll]
    have := h1.dp
    omega
theorem hd_list {k : Nat} {ds : List PyData} (h : ∀ d ∈ ds, Hd k d) : Hd (k + 1) (.list ds) := by
  have h2 := hd_all h
  exact ⟨by simp only [PyData.depth]; omega, by rw [hard]; exact h2.2⟩
theorem hd_tuple {k : Nat} {ds : List PyData} (h : ∀ d ∈ ds, Hd k d) : Hd (k + 1) (.tuple ds) := by
  have h2 := hd_all h
  exact ⟨by simp only [PyData.depth]; omega, by rw [hard]; exact h2.2⟩
theorem hd_map {α : Type} {k : Nat} {enc : α → PyData} {l : List α} (h : ∀ x, Hd k (enc x)) : ∀ d ∈ l.map enc, Hd k d := fun d hd => by
  obtain ⟨x, _, rfl⟩ := List.mem_map.mp hd
  exact h x
theorem hd_nil {k : Nat} : ∀ d ∈ ([] : List PyData), Hd k d := fun _ h => nomatch h
theorem hd_cons {k : Nat} {x : PyData} {xs : List PyData} (h : Hd k x) (t : ∀ d ∈ xs, Hd k d) : ∀ d ∈ x :: xs, Hd k d := fun d hd => by
  rcases List.mem_cons.mp hd with rfl | hd
  · exact h
  · exact t d hd
theorem hd_L {d : Nat} (x : Q d) : Hd 1 (L x) := hd_tuple (k := 0) (hd_cons (hd_int _) (hd_cons (hd_int _) (hd_cons (hd_int _) hd_nil)))
open Classical in
theorem hd_eqv {k l : Nat} {a b : PyData} (h : Hd k a) (g : Hd l b) : PyData.eqv a b = decide (a = b) := by
  rw [Bool.eq_iff_iff, decide_eq_true_eq]
  exact ⟨eqv_hard a b h.hd g.hd, fun e => by rw [e]; exact SeqAt.eqv_refl_plain b (hard_plain b g.hd)⟩
open Classical in
theorem hd_eq {k l : Nat} {a b : PyData} (h : Hd k a) (g : Hd l b) (hk : k ≤ 50) (hl : l ≤ 50) : evCmp .eq a b = some (decide (a = b)) := by
  have d1 := h.dok hk
  have d2 := g.dok hl
  have fin : (if dok a && dok b then some (PyData.eqv a b) else none) = some (decide (a = b)) := by rw [d1, d2, hd_eqv h g]; rfl
  cases a with
  | int i =>
    cases b with
    | int j => rw [i_eq]; congr 1; rw [Bool.eq_iff_iff, decide_eq_true_eq, decide_eq_true_eq]; exact ⟨fun e => by rw [e], fun e => by injection e⟩
    | _ => exact fin
  | _ => exact fin
open Classical in
theorem hd_ne {k l : Nat} {a b : PyData} (h : Hd k a) (g : Hd l b) (hk : k ≤ 50) (hl : l ≤ 50) : evCmp .ne a b = some (!decide (a = b)) := by
  have d1 := h.dok hk
  have d2 := g.dok hl
  have fin : (if dok a && dok b then some (!PyData.eqv a b) else none) = some (!decide (a = b)) := by rw [d1, d2, hd_eqv h g]; rfl
  cases a with
  | int i =>
    cases b with
    | int j => rw [i_ne]; congr 2; rw [Bool.eq_iff_iff, decide_eq_true_eq, decide_eq_true_eq]; exact ⟨fun e => by rw [e], fun e => by injection e⟩
    | _ => exact fin
  | _ => exact fin
theorem hd_ne_self {k : Nat} {a : PyData} (h : Hd k a) (hk : k ≤ 50) : evCmp .ne a a = some false := by
  classical
  rw [hd_ne h h hk hk, decide_eq_true rfl]; rfl
theorem hd_eq_self {k : Nat} {a : PyData} (h : Hd k a) (hk : k ≤ 50) : evCmp .eq a a = some true := by
  classical
  rw [hd_eq h h hk hk, decide_eq_true rfl]
theorem map_inj {α : Type} {enc : α → PyData} (h : ∀ x y, enc x = enc y → x = y) : ∀ {l r : List α}, l.map enc = r.map enc → l = r
  | [], [], _ => rfl
  | [], _ :: _, e => nomatch e
  | _ :: _, [], e => nomatch e
  | x :: l, y :: r, e => by
    rw [List.map_cons, List.map_cons] at e
    injection e with e1 e2
    rw [h x y e1, map_inj h e2]
theorem rep_4 (a : PyData) : evBin .mul (.list [a]) (.int 4) = some (true, .list [a, a, a, a]) := by rfl
theorem int_F {d : Nat} (n : Int) : ((n : Int) : Q d) = F (n : Rat) := rfl
theorem dn_mk {d : Nat} {p q : Int} {s k P : Nat} (hs : 0 < s) (hp : p.natAbs ≤ P) (hq : q.natAbs ≤ P) : Dn (s * k) (P * k) (mkQ d p q (s : Int)) := by
  have hs0 : (s : Rat) ≠ 0 := by
    have : ((s : Int) : Rat) ≠ 0 := cast_ne (by omega)
    rwa [Rat.intCast_natCast] at this
  have em : ∀ a : Int, (a * (k : Int)).natAbs = a.natAbs * k := fun a => by rw [Int.natAbs_mul, Int.natAbs_natCast]
  refine ⟨p * k, q * k, ?_, ?_, by rw [em]; exact Nat.mul_le_mul_right k hp, by rw [em]; exact Nat.mul_le_mul_right k hq⟩
  · show (p : Rat) / ((s : Int) : Rat) * _ = _
    rw [Rat.intCast_mul, Rat.natCast_mul, Rat.intCast_natCast, Rat.intCast_natCast]; grind
  · show (q : Rat) / ((s : Int) : Rat) * _ = _
    rw [Rat.intCast_mul, Rat.natCast_mul, Rat.intCast_natCast, Rat.intCast_natCast]; grind
end PV

set_option Elab.async false
set_option linter.all false
set_option maxRecDepth 100000
set_option maxHeartbeats 4000000
/-! PVS: the drawn roots are no squares. -/
namespace PV
open PySem L2 Qu
theorem sq_dvd {P Q : Nat} (h : Q * Q ∣ P * P) : Q ∣ P := by
  have h2 : Q ^ 2 ∣ P ^ 2 := by rw [Nat.pow_two, Nat.pow_two]; exact h
  exact (Nat.pow_dvd_pow_iff (by decide)).mp h2
theorem nsq_of {d : Nat} (h : ∀ r : Nat, r * r ≠ d) : NSq d where
  ns a b e := Classical.byContradiction fun hb => by
    have ha := rat_eq a
    have hb2 := rat_eq b
    have da : (a.den : Rat) ≠ 0 := by have := a.den_nz; exact_mod_cast this
    have db : (b.den : Rat) ≠ 0 := by have := b.den_nz; exact_mod_cast this
    have hn : b.num ≠ 0 := fun z => hb (by
      have : (b.num : Rat) = 0 := by rw [z]; rfl
      rw [this] at hb2
      grind)
    have e2 : ((a.num * b.den : Int) : Rat) * ((a.num * b.den : Int) : Rat) = (d : Rat) * (((b.num * a.den : Int) : Rat) * ((b.num * a.den : Int) : Rat)) := by
      rw [Rat.intCast_mul, Rat.intCast_mul, ← ha, ← hb2, Rat.intCast_natCast, Rat.intCast_natCast]
      grind
    have hq : b.num * (a.den : Int) ≠ 0 := fun z => by
      rcases Int.mul_eq_zero.mp z with z | z
      · exact hn z
      · have := a.den_nz; omega
    generalize a.num * (b.den : Int) = X at e2
    generalize b.num * (a.den : Int) = Y at e2 hq
    have e3 : X * X = (d : Int) * (Y * Y) := by
      have : ((X * X : Int) : Rat) = (((d : Int) * (Y * Y) : Int) : Rat) := by
        rw [Rat.intCast_mul, Rat.intCast_mul, Rat.intCast_mul, Rat.intCast_natCast]
        exact e2
      exact_mod_cast this
    have e4 := congrArg Int.natAbs e3
    rw [Int.natAbs_mul, Int.natAbs_mul, Int.natAbs_mul, Int.natAbs_natCast] at e4
    have hq : Y.natAbs ≠ 0 := by omega
    generalize X.natAbs = X at *
    generalize Y.natAbs = Y at *
    obtain ⟨r, hr⟩ := sq_dvd (P := X) (Q := Y) ⟨d, by rw [e4, Nat.mul_comm]⟩
    subst hr
    have hy : 0 < Y := Nat.pos_of_ne_zero hq
    apply h r
    have e5 : (Y * Y) * (r * r) = (Y * Y) * d := by
      have : Y * r * (Y * r) = (Y * Y) * (r * r) := by rw [Nat.mul_mul_mul_comm]
      rw [← this, e4, Nat.mul_comm]
    exact Nat.eq_of_mul_eq_mul_left (Nat.mul_pos hy hy) e5
theorem nsq_small {d : Nat} (h8 : d < 64) (h : ∀ r < 8, r * r ≠ d) : NSq d := nsq_of fun r e => by
  by_cases hr : r < 8
  · exact h r hr e
  · have : 8 * 8 ≤ r * r := Nat.mul_le_mul (by omega) (by omega)
    omega
end PV

set_option Elab.async false
set_option linter.all false
set_option maxRecDepth 100000
set_option maxHeartbeats 4000000
/-! PLL: lying lines, plain: greatest stretches of edges. -/
namespace LL
open Qu
open Classical
variable {d : Nat}
/-- an edge: left, height, right -/
abbrev Ed (d : Nat) := Q d × Q d × Q d
/-- a line: height, left, right -/
abbrev Ln (d : Nat) := Q d × Q d × Q d
structure Comp [NSq d] (E : List (Ed d)) (u : Ln d) : Prop where
  left : ∃ e ∈ E, e.2.1 = u.1 ∧ e.1 = u.2.1
  right : ∃ e ∈ E, e.2.1 = u.1 ∧ e.2.2 = u.2.2
  lt : u.2.1 < u.2.2
  c1 : ∀ p, u.2.1 < p → p < u.2.2 → ∃ e ∈ E, e.2.1 = u.1 ∧ e.1 < p ∧ p ≤ e.2.2
  c2 : ∀ p, u.2.1 < p → p < u.2.2 → ∃ e ∈ E, e.2.1 = u.1 ∧ e.1 ≤ p ∧ p < e.2.2
  ml : ∀ e ∈ E, e.2.1 = u.1 → ¬ (e.1 < u.2.1 ∧ u.2.1 ≤ e.2.2)
  mr : ∀ e ∈ E, e.2.1 = u.1 → ¬ (e.1 ≤ u.2.2 ∧ u.2.2 < e.2.2)
def before [NSq d] (u v : Ln d) : Prop := u.1 < v.1 ∨ (u.1 = v.1 ∧ u.2.2 < v.2.1)
structure IsLines [NSq d] (E : List (Ed d)) (F : List (Ln d)) : Prop where
  pw : F.Pairwise before
  cp : ∀ u ∈ F, Comp E u
  al : ∀ e ∈ E, ∃ u ∈ F, u.1 = e.2.1 ∧ u.2.1 ≤ e.1 ∧ e.2.2 ≤ u.2.2
theorem Comp.cong [NSq d] {E E' : List (Ed d)} {u : Ln d} (h : Comp E u) (hm : ∀ e, e ∈ E ↔ e ∈ E') : Comp E' u := by
  obtain ⟨⟨e1, a1, b1⟩, ⟨e2, a2, b2⟩, h3, h4, h5, h6, h7⟩ := h
  refine ⟨⟨e1, (hm _).mp a1, b1⟩, ⟨e2, (hm _).mp a2, b2⟩, h3, fun p h h' => ?_, fun p h h' => ?_, fun e he => h6 e ((hm e).mpr he), fun e he => h7 e ((hm e).mpr he)⟩
  · obtain ⟨e, a, b⟩ := h4 p h h'; exact ⟨e, (hm e).mp a, b⟩
  · obtain ⟨e, a, b⟩ := h5 p h h'; exact ⟨e, (hm e).mp a, b⟩
theorem IsLines.cong [NSq d] {E E' : List (Ed d)} {F : List (Ln d)} (h : IsLines E F) (hm : ∀ e, e ∈ E ↔ e ∈ E') : IsLines E' F :=
  ⟨h.pw, fun u hu => (h.cp u hu).cong hm, fun e he => h.al e ((hm e).mpr he)⟩
/-- two greatest stretches of which one holds an edge of the other are one -/
theorem comp_eq [NSq d] {E : List (Ed d)} {u v : Ln d} (hu : Comp E u) (hv : Comp E v) (hy : u.1 = v.1) {l r : Q d} (hlr : l < r) (u1 : u.2.1 ≤ l) (u2 : r ≤ u.2.2) (v1 : v.2.1 ≤ l) (v2 : r ≤ v.2.2) : u = v := by
  have go : ∀ {u v : Ln d}, Comp E u → Comp E v → u.1 = v.1 → u.2.1 ≤ l → r ≤ u.2.2 → v.2.1 ≤ l → r ≤ v.2.2 → ¬ v.2.1 < u.2.1 ∧ ¬ u.2.2 < v.2.2 := by
    intro u v hu hv hy u1 u2 v1 v2
    constructor
    · intro h
      obtain ⟨e, he, e1, e2, e3⟩ := hv.c1 u.2.1 h (by grind)
      exact hu.ml e he (e1.trans hy.symm) ⟨e2, e3⟩
    · intro h
      obtain ⟨e, he, e1, e2, e3⟩ := hv.c2 u.2.2 (by grind) h
      exact hu.mr e he (e1.trans hy.symm) ⟨e2, e3⟩
  obtain ⟨a1, a2⟩ := go hu hv hy u1 u2 v1 v2
  obtain ⟨b1, b2⟩ := go hv hu hy.symm v1 v2 u1 u2
  have e1 : u.2.1 = v.2.1 := by grind
  have e2 : u.2.2 = v.2.2 := by grind
  exact Prod.ext hy (Prod.ext e1 e2)
theorem lines_sub [NSq d] {E : List (Ed d)} {F G : List (Ln d)} (he : ∀ e ∈ E, e.1 < e.2.2) (hF : IsLines E F) (hG : IsLines E G) : ∀ u ∈ F, u ∈ G := fun u hu => by
  have cu := hF.cp u hu
  obtain ⟨e, h1, h2, h3⟩ := cu.left
  obtain ⟨v, hv, k1, k2, k3⟩ := hG.al e h1
  have hlt := he e h1
  obtain ⟨w, hw, m1, m2, m3⟩ := hF.al e h1
  have ew : u.2.1 ≤ e.1 := by grind
  have eu : e.2.2 ≤ u.2.2 := by
    have := cu.mr e h1 h2
    have := cu.lt
    apply Classical.byContradiction
    intro h
    exact this |> fun _ => cu.mr e h1 h2 ⟨by grind, by grind⟩
  rw [comp_eq cu (hG.cp v hv) (h2.symm.trans k1.symm) hlt ew eu k2 k3]
  exact hv
theorem before_irr [NSq d] {E : List (Ed d)} {u : Ln d} (h : Comp E u) : ¬ before u u := by
  have := h.lt
  intro k
  rcases k with k | ⟨-, k⟩ <;> grind
theorem before_asym [NSq d] {E : List (Ed d)} {u v : Ln d} (hu : Comp E u) (hv : Comp E v) (h : before u v) : ¬ before v u := by
  have := hu.lt
  have := hv.lt
  intro k
  rcases k with k | ⟨k1, k⟩ <;> rcases h with h | ⟨h1, h⟩ <;> grind
theorem lines_unique [NSq d] {E : List (Ed d)} {F G : List (Ln d)} (he : ∀ e ∈ E, e.1 < e.2.2) (hF : IsLines E F) (hG : IsLines E G) : F = G := by
  have s1 := lines_sub he hF hG
  have s2 := lines_sub he hG hF
  have nd : ∀ {F : List (Ln d)}, IsLines E F → F.Nodup := fun {F} h => by
    refine List.Pairwise.imp_of_mem ?_ h.pw
    intro a b ha hb hab e
    subst e
    exact before_irr (h.cp a ha) hab
  have hp : F.Perm G := (List.perm_ext_iff_of_nodup (nd hF) (nd hG)).mpr fun a => ⟨s1 a, s2 a⟩
  exact hp.eq_of_pairwise (fun a b ha hb h1 h2 => absurd h2 (before_asym (hF.cp a ha) (hG.cp b hb) h1)) hF.pw hG.pw
/-! ### the sweep -/
/-- how far a sweep over edges in order has come -/
structure Swept [NSq d] (P : List (Ed d)) (F : List (Ln d)) : Prop where
  is : IsLines P F
  last : ∀ F' u, F = F' ++ [u] → ∀ e ∈ P, e.2.1 < u.1 ∨ (e.2.1 = u.1 ∧ e.2.2 ≤ u.2.2)
theorem swept_nil [NSq d] : Swept ([] : List (Ed d)) [] := ⟨⟨.nil, (fun _ h => nomatch h), (fun _ h => nomatch h)⟩, fun F' u h => by simp at h⟩
/-- an edge that does not touch what lies so far -/
theorem swept_new [NSq d] {P : List (Ed d)} {F : List (Ln d)} {e : Ed d} (h : Swept P F) (he : e.1 < e.2.2) (hs : ∀ x ∈ P, x.2.1 < e.2.1 ∨ (x.2.1 = e.2.1 ∧ x.1 ≤ e.1)) (hx : ∀ F' u, F = F' ++ [u] → u.1 ≠ e.2.1 ∨ u.2.2 < e.1) : Swept (P ++ [e]) (F ++ [(e.2.1, e.1, e.2.2)]) := by
  have hP : ∀ x ∈ P, x.2.1 < e.2.1 ∨ (x.2.1 = e.2.1 ∧ x.2.2 < e.1) := fun x hx1 => by
    rcases List.eq_nil_or_concat F with hF | ⟨F', u, hF⟩
    · subst hF
      obtain ⟨v, hv, -⟩ := h.is.al x hx1
      exact nomatch hv
    · rw [List.concat_eq_append] at hF
      have h1 := h.last F' u hF x hx1
      have h2 := hx F' u hF
      have h3 := hs x hx1
      obtain ⟨ul, hul, l1, l2⟩ := (h.is.cp u (by rw [hF]; simp)).left
      have h4 := hs ul hul
      rcases h3 with h3 | ⟨h3, h3'⟩
      · exact .inl h3
      · right
        refine ⟨h3, ?_⟩
        rcases h1 with h1 | ⟨h1, h1'⟩
        · exfalso
          rcases h4 with h4 | ⟨h4, h4'⟩ <;> grind
        · rcases h2 with h2 | h2
          · exact absurd (h1.symm.trans h3) h2
          · grind
  have hF : ∀ u ∈ F, before u (e.2.1, e.1, e.2.2) := fun u hu => by
    obtain ⟨x, hx1, e1, e2⟩ := (h.is.cp u hu).right
    have := hP x hx1
    unfold before
    show u.1 < e.2.1 ∨ (u.1 = e.2.1 ∧ u.2.2 < e.1)
    rw [← e1, ← e2]
    exact this
  have mem : ∀ x, x ∈ P ++ [e] ↔ x ∈ P ∨ x = e := fun x => by simp
  refine ⟨⟨?_, fun u hu => ?_, fun x hx1 => ?_⟩, fun F' u hF' x hx1 => ?_⟩
  · rw [List.pairwise_append]
    exact ⟨h.is.pw, List.pairwise_singleton _ _, fun a ha b hb => by rw [List.mem_singleton.mp hb]; exact hF a ha⟩
  · rcases List.mem_append.mp hu with hu | hu
    · have c := h.is.cp u hu
      have b := hF u hu
      obtain ⟨⟨x1, a1, b1⟩, ⟨x2, a2, b2⟩, c3, c4, c5, c6, c7⟩ := c
      have bb : u.1 < e.2.1 ∨ (u.1 = e.2.1 ∧ u.2.2 < e.1) := b
      refine ⟨⟨x1, (mem _).mpr (.inl a1), b1⟩, ⟨x2, (mem _).mpr (.inl a2), b2⟩, c3, fun p h1 h2 => ?_, fun p h1 h2 => ?_, fun x hx1 hy => ?_, fun x hx1 hy => ?_⟩
      · obtain ⟨x, a, b⟩ := c4 p h1 h2; exact ⟨x, (mem _).mpr (.inl a), b⟩
      · obtain ⟨x, a, b⟩ := c5 p h1 h2; exact ⟨x, (mem _).mpr (.inl a), b⟩
      · rcases (mem x).mp hx1 with hx1 | rfl
        · exact c6 x hx1 hy
        · rcases bb with bb | ⟨bb, bb'⟩ <;> grind
      · rcases (mem x).mp hx1 with hx1 | rfl
        · exact c7 x hx1 hy
        · rcases bb with bb | ⟨bb, bb'⟩ <;> grind
    · rw [List.mem_singleton.mp hu]
      refine ⟨⟨e, (mem _).mpr (.inr rfl), rfl, rfl⟩, ⟨e, (mem _).mpr (.inr rfl), rfl, rfl⟩, he, fun p h1 h2 => ⟨e, (mem _).mpr (.inr rfl), rfl, h1, Std.le_of_lt h2⟩, fun p h1 h2 => ⟨e, (mem _).mpr (.inr rfl), rfl, Std.le_of_lt h1, h2⟩, fun x hx1 hy => ?_, fun x hx1 hy => ?_⟩
      · show ¬ (x.1 < e.1 ∧ e.1 ≤ x.2.2)
        have hy : x.2.1 = e.2.1 := hy
        rcases (mem x).mp hx1 with hx1 | rfl
        · rcases hP x hx1 with k | ⟨k, k'⟩ <;> grind
        · grind
      · show ¬ (x.1 ≤ e.2.2 ∧ e.2.2 < x.2.2)
        have hy : x.2.1 = e.2.1 := hy
        rcases (mem x).mp hx1 with hx1 | rfl
        · rcases hP x hx1 with k | ⟨k, k'⟩ <;> grind
        · grind
  · rcases (mem x).mp hx1 with hx1 | rfl
    · obtain ⟨u, hu, a⟩ := h.is.al x hx1
      exact ⟨u, List.mem_append_left _ hu, a⟩
    · exact ⟨_, List.mem_append_right _ (List.mem_singleton.mpr rfl), rfl, Std.le_refl _, Std.le_refl _⟩
  · have := (List.append_inj' hF' rfl).2
    injection this with this
    rw [← this]
    show x.2.1 < e.2.1 ∨ (x.2.1 = e.2.1 ∧ x.2.2 ≤ e.2.2)
    rcases (mem x).mp hx1 with hx1 | rfl
    · rcases hP x hx1 with k | ⟨k, k'⟩
      · exact .inl k
      · exact .inr ⟨k, by grind⟩
    · exact .inr ⟨rfl, Std.le_refl _⟩
/-- an edge that touches the last line: the line goes on as far as B -/
theorem swept_on [NSq d] {P : List (Ed d)} {F' : List (Ln d)} {u : Ln d} {e : Ed d} {B : Q d} (h : Swept P (F' ++ [u])) (heP : ∀ x ∈ P, x.1 < x.2.2) (he : e.1 < e.2.2) (hs : ∀ x ∈ P, x.2.1 < e.2.1 ∨ (x.2.1 = e.2.1 ∧ x.1 ≤ e.1)) (hy : u.1 = e.2.1) (ht : e.1 ≤ u.2.2) (hB : (B = u.2.2 ∧ e.2.2 ≤ u.2.2) ∨ (B = e.2.2 ∧ u.2.2 < e.2.2)) : Swept (P ++ [e]) (F' ++ [(u.1, u.2.1, B)]) := by
  have cu := h.is.cp u (by simp)
  have mem : ∀ x, x ∈ P ++ [e] ↔ x ∈ P ∨ x = e := fun x => by simp
  have hb1 : u.2.2 ≤ B := by rcases hB with ⟨h1, h2⟩ | ⟨h1, h2⟩ <;> grind
  have hb2 : e.2.2 ≤ B := by rcases hB with ⟨h1, h2⟩ | ⟨h1, h2⟩ <;> grind
  have hl := h.last F' u rfl
  obtain ⟨ul, hul, l1, l2⟩ := cu.left
  have hal : u.2.1 ≤ e.1 := by
    rcases hs ul hul with k | ⟨k, k'⟩
    · exfalso; grind
    · grind
  have pw := h.is.pw
  rw [List.pairwise_append] at pw
  have hF : ∀ v ∈ F', before v u := fun v hv => pw.2.2 v hv u (by simp)
  have lt := cu.lt
  refine ⟨⟨?_, fun v hv => ?_, fun x hx => ?_⟩, fun G v hG x hx => ?_⟩
  · rw [List.pairwise_append]
    refine ⟨pw.1, List.pairwise_singleton _ _, fun a ha b hb => ?_⟩
    rw [List.mem_singleton.mp hb]
    exact hF a ha
  · rcases List.mem_append.mp hv with hv | hv
    · have c := h.is.cp v (by simp [hv])
      have bb : v.1 < u.1 ∨ (v.1 = u.1 ∧ v.2.2 < u.2.1) := hF v hv
      obtain ⟨⟨x1, a1, b1⟩, ⟨x2, a2, b2⟩, c3, c4, c5, c6, c7⟩ := c
      refine ⟨⟨x1, (mem _).mpr (.inl a1), b1⟩, ⟨x2, (mem _).mpr (.inl a2), b2⟩, c3, fun p h1 h2 => ?_, fun p h1 h2 => ?_, fun x hx1 hy => ?_, fun x hx1 hy => ?_⟩
      · obtain ⟨x, a, b⟩ := c4 p h1 h2; exact ⟨x, (mem _).mpr (.inl a), b⟩
      · obtain ⟨x, a, b⟩ := c5 p h1 h2; exact ⟨x, (mem _).mpr (.inl a), b⟩
      · rcases (mem x).mp hx1 with hx1 | rfl
        · exact c6 x hx1 hy
        · rcases bb with bb | ⟨bb, bb'⟩ <;> grind
      · rcases (mem x).mp hx1 with hx1 | rfl
        · exact c7 x hx1 hy
        · rcases bb with bb | ⟨bb, bb'⟩ <;> grind
    · rw [List.mem_singleton.mp hv]
      obtain ⟨ur, hur, r1, r2⟩ := cu.right
      have hurl : ur.1 < ur.2.2 ∨ ur.2.2 ≤ ur.1 := by grind
      refine ⟨⟨ul, (mem _).mpr (.inl hul), l1, l2⟩, ?_, ?_, fun p h1 h2 => ?_, fun p h1 h2 => ?_, fun x hx1 hy1 => ?_, fun x hx1 hy1 => ?_⟩
      · rcases hB with ⟨h1, -⟩ | ⟨h1, -⟩
        · exact ⟨ur, (mem _).mpr (.inl hur), r1, by show ur.2.2 = B; rw [h1]; exact r2⟩
        · exact ⟨e, (mem _).mpr (.inr rfl), hy.symm, h1.symm⟩
      · show u.2.1 < B
        grind
      · have h1 : u.2.1 < p := h1
        have h2 : p < B := h2
        by_cases k : p < u.2.2
        · obtain ⟨x, a, b⟩ := cu.c1 p h1 k; exact ⟨x, (mem _).mpr (.inl a), b⟩
        · rcases hB with ⟨g1, g2⟩ | ⟨g1, g2⟩
          · exfalso; grind
          · by_cases k2 : e.1 < p
            · exact ⟨e, (mem _).mpr (.inr rfl), hy.symm, k2, by grind⟩
            · -- p is the end of the line so far
              have hp : p = u.2.2 := by grind
              refine ⟨ur, (mem _).mpr (.inl hur), r1, ?_, by grind⟩
              apply Classical.byContradiction
              intro hn
              have g3 : u.2.2 ≤ ur.1 := by grind
              have hue := cu.ml ur hur r1
              exact absurd (heP ur hur) (by grind)
      · have h1 : u.2.1 < p := h1
        have h2 : p < B := h2
        by_cases k : p < u.2.2
        · obtain ⟨x, a, b⟩ := cu.c2 p h1 k; exact ⟨x, (mem _).mpr (.inl a), b⟩
        · rcases hB with ⟨g1, g2⟩ | ⟨g1, g2⟩
          · exfalso; grind
          · exact ⟨e, (mem _).mpr (.inr rfl), hy.symm, by grind, by grind⟩
      · show ¬ (x.1 < u.2.1 ∧ u.2.1 ≤ x.2.2)
        have hy1 : x.2.1 = u.1 := hy1
        rcases (mem x).mp hx1 with hx1 | rfl
        · exact cu.ml x hx1 hy1
        · grind
      · show ¬ (x.1 ≤ B ∧ B < x.2.2)
        have hy1 : x.2.1 = u.1 := hy1
        rcases (mem x).mp hx1 with hx1 | rfl
        · rcases hl x hx1 with k | ⟨k, k'⟩ <;> grind
        · grind
  · rcases (mem x).mp hx with hx | rfl
    · obtain ⟨v, hv, a1, a2, a3⟩ := h.is.al x hx
      rcases List.mem_append.mp hv with hv | hv
      · exact ⟨v, List.mem_append_left _ hv, a1, a2, a3⟩
      · rw [List.mem_singleton.mp hv] at a1 a2 a3
        exact ⟨_, List.mem_append_right _ (List.mem_singleton.mpr rfl), a1, a2, by show x.2.2 ≤ B; grind⟩
    · exact ⟨_, List.mem_append_right _ (List.mem_singleton.mpr rfl), hy, hal, hb2⟩
  · have := (List.append_inj' hG rfl).2
    injection this with this
    rw [← this]
    show x.2.1 < u.1 ∨ (x.2.1 = u.1 ∧ x.2.2 ≤ B)
    rcases (mem x).mp hx with hx | rfl
    · rcases hl x hx with k | ⟨k, k'⟩
      · exact .inl k
      · exact .inr ⟨k, by grind⟩
    · exact .inr ⟨hy.symm, hb2⟩
end LL

set_option Elab.async false
set_option linter.all false
/-! PVR: repr of lists and tuples of small numbers is told. -/
namespace PV
open PySem L2 Qu
mutual
/-- numbers within, all small -/
def rpD : PyData → Bool
  | .int i => decide (i.natAbs.log2 < 1920)
  | .list xs => rpA xs
  | .tuple xs => rpA xs
  | _ => false
def rpA : List PyData → Bool
  | [] => true
  | x :: xs => rpD x && rpA xs
end
mutual
def cntD : PyData → Nat
  | .list xs => 1 + cntA xs
  | .tuple xs => 1 + cntA xs
  | _ => 1
def cntA : List PyData → Nat
  | [] => 0
  | x :: xs => cntD x + cntA xs
end
def lens : List Str → Nat
  | [] => 0
  | t :: ts => t.length + 2 + lens ts
theorem textFrom_le : ∀ (ts : List Str) (k : Nat) (acc : Str), (textFrom k acc ts).length ≤ acc.length + lens ts
  | [], k, acc => Nat.le_add_right _ _
  | t :: ts, k, acc => by
    have h := textFrom_le ts (k + 1) (acc ++ (if k > 0 then ", " else "" : String) ++ t)
    have e : (acc ++ (if k > 0 then ", " else "" : String) ++ t).length = acc.length + (if k > 0 then 2 else 0) + t.length := by
      rw [strLen_append, strLen_append]
      split <;> rfl
    rw [e] at h
    show (textFrom (k + 1) _ ts).length ≤ acc.length + (t.length + 2 + lens ts)
    have hb : (if k > 0 then 2 else 0) ≤ 2 := by split <;> omega
    omega
theorem piled_eq : ∀ ts : List Str, piled ts = lens ts
  | [] => rfl
  | t :: ts => by
    have := piled_eq ts
    unfold lens
    rw [← this]
    rfl
theorem join_le (ts : List Str) : (Str.join ", " ts).length ≤ lens ts + 1 := by
  cases ts with
  | nil => exact Nat.zero_le _
  | cons t ts =>
    have h := join_length_add (t :: ts) (by simp)
    rw [piled_eq] at h
    omega
mutual
theorem rp_ok : ∀ d : PyData, rpD d = true → d.showable = true ∧ d.hasDict = false ∧ d.shown.length + 2 ≤ 2000 * cntD d
  | .int i, h => by
    unfold rpD at h
    refine ⟨by rw [PyData.showable.eq_4]; exact h, by simp [PyData.hasDict], ?_⟩
    rw [PyData.shown.eq_3]
    have := PyProof.Rows.int_text_len_1921 (of_decide_eq_true h)
    unfold cntD
    omega
  | .list xs, h => by
    unfold rpD at h
    obtain ⟨h1, h2, h3⟩ := rpA_ok xs h
    refine ⟨by rw [PyData.showable.eq_5]; exact h1, by simp only [PyData.hasDict]; exact h2, ?_⟩
    rw [PyData.shown.eq_5]
    unfold listText
    rw [strLen_append]
    have := textFrom_le (PyData.shownAll xs) 0 "["
    have e1 : (Str.ofString "[").length = 1 := rfl
    have e2 : (Str.ofString "]").length = 1 := rfl
    rw [e1] at this
    rw [e2]
    unfold cntD
    omega
  | .tuple xs, h => by
    unfold rpD at h
    obtain ⟨h1, h2, h3⟩ := rpA_ok xs h
    refine ⟨by rw [PyData.showable.eq_6]; exact h1, by simp only [PyData.hasDict]; exact h2, ?_⟩
    rw [PyData.shown.eq_6]
    unfold tupleText
    rw [strLen_append, strLen_append]
    have := join_le (PyData.shownAll xs)
    have e1 : (Str.ofString "(").length = 1 := rfl
    have e2 : (Str.ofString (if ((PyData.shownAll xs).length == 1) = true then ",)" else ")")).length ≤ 2 := by split <;> decide
    rw [e1]
    unfold cntD
    omega
  | .none, h => by simp [rpD] at h
  | .bool _, h => by simp [rpD] at h
  | .str _, h => by simp [rpD] at h
  | .dict _, h => by simp [rpD] at h
theorem rpA_ok : ∀ ds : List PyData, rpA ds = true → PyData.showableAll ds = true ∧ PyData.hasDictAll ds = false ∧ lens (PyData.shownAll ds) ≤ 2000 * cntA ds
  | [], _ => ⟨by simp [PyData.showableAll], by simp [PyData.hasDictAll], by simp [PyData.shownAll, lens]⟩
  | x :: xs, h => by
    unfold rpA at h
    rw [Bool.and_eq_true] at h
    obtain ⟨a1, a2, a3⟩ := rp_ok x h.1
    obtain ⟨b1, b2, b3⟩ := rpA_ok xs h.2
    refine ⟨by simp only [PyData.showableAll, a1, b1]; rfl, by simp only [PyData.hasDictAll, a2, b2]; rfl, ?_⟩
    simp only [PyData.shownAll, lens, cntA]
    omega
end
theorem repr_is {d : PyData} {n : Nat} (h : rpD d = true) (hc : cntD d ≤ 8000) (hd : d.depth ≤ 50) : ∃ s, evBI .repr [d] = some (false, .str s) := by
  obtain ⟨h1, h2, h3⟩ := rp_ok d h
  refine ⟨d.shown, ?_⟩
  show (if d.showable && !d.hasDict && Nat.ble d.depth 50 && lenOk (d.shown.length + 64) then some (false, PyData.str d.shown) else none) = _
  rw [h1, h2, Nat.ble_eq_true_of_le hd, lenOk_of (by omega)]
  rfl
theorem rpA_map {α : Type} {en : α → PyData} : ∀ {l : List α}, (∀ x ∈ l, rpD (en x) = true) → rpA (l.map en) = true
  | [], _ => rfl
  | x :: l, h => by
    rw [List.map_cons]
    unfold rpA
    rw [h x List.mem_cons_self, rpA_map fun y hy => h y (List.mem_cons_of_mem _ hy)]
    rfl
theorem cntA_map {α : Type} {en : α → PyData} {c : Nat} : ∀ {l : List α}, (∀ x ∈ l, cntD (en x) ≤ c) → cntA (l.map en) ≤ c * l.length
  | [], _ => Nat.zero_le _
  | x :: l, h => by
    rw [List.map_cons]
    unfold cntA
    have h1 := h x List.mem_cons_self
    have h2 := cntA_map (c := c) fun y hy => h y (List.mem_cons_of_mem x hy)
    rw [List.length_cons, Nat.mul_succ]
    omega
theorem log2_of {i : Int} {k : Nat} (h : i.natAbs < 2 ^ k) (hk : k ≤ 1900) : decide (i.natAbs.log2 < 1920) = true := by
  rw [decide_eq_true_eq]
  rcases Nat.eq_zero_or_pos i.natAbs with z | z
  · rw [z]; decide
  · have := (Nat.log2_lt (n := i.natAbs) (k := k) (by omega)).mpr h
    omega
theorem rp_L {d : Nat} {x : Q d} {k : Nat} (h : Sz k x) (hk : k ≤ 1900) : rpD (L x) = true := by
  rw [L_def]
  unfold rpD rpA rpA rpA rpA rpD
  rw [log2_of h.p hk, log2_of h.q hk, log2_of h.s hk]
  rfl
theorem cnt_L {d : Nat} (x : Q d) : cntD (L x) = 4 := by
  rw [L_def]
  unfold cntD cntA cntA cntA cntA cntD
  rfl
theorem str_ne_self (s : Str) : evCmp .ne (.str s) (.str s) = some false := by
  have h : dok (.str s) = true := by
    unfold dok
    simp [PyData.depth, PyData.plain]
  show (if dok (.str s) && dok (.str s) then some (!PyData.eqv (.str s) (.str s)) else none) = _
  rw [h]
  have e : PyData.eqv (.str s) (.str s) = true := by simp [PyData.eqv]
  rw [e]
  rfl
end PV

set_option Elab.async false
set_option linter.all false
set_option maxRecDepth 100000
set_option maxHeartbeats 4000000
namespace K83
open PySem PySem.Spec PyProof.Rows L2 PV
def topS (i : Nat) : Stmt := PySem.Challenge.pw_likesheets_k83_whole_widths_add_up.main.body.getD i (.Pass ⟨0, 0, 0, 0⟩)
def cst : List (Str × PyData) := []
def t_0 : List (Str × Fn) := []
def ib_common_divisor_1 : Ss :=
  (.cons (.par 0 1 (.v 1) (.bin .mod (.v 0) (.v 1)))
  .nil)
def iw_common_divisor_1 : E :=
  (.cmp .gt (.v 1) (.c (.int 0)))
def ir_common_divisor : Ss :=
  (.cons (.while_ iw_common_divisor_1 ib_common_divisor_1)
  (.cons (.ret (.v 0))
  .nil))
def f_common_divisor : Fn := evDef FUEL 2 2 ir_common_divisor
theorem cm_common_divisor : compDef ⟨["first", "second"], fun x => t_0.lookup x, fun x => cst.lookup x⟩ (topS 1) = some ir_common_divisor := by kernel_rfl
theorem sc_common_divisor : FnScope ["first", "second"] ["first", "second"] (defScope (topS 1)) := ⟨rfl, rfl, rfl, by decide +kernel, rfl, by decide +kernel, by decide +kernel⟩
def t_1 : List (Str × Fn) := ("common_divisor", f_common_divisor) :: t_0
def ir_common_of_three : Ss :=
  (.cons (.ret (.call f_common_divisor (.cons (.call f_common_divisor (.cons (.bi .abs (.cons (.v 0) .nil)) (.cons (.bi .abs (.cons (.v 1) .nil)) .nil))) (.cons (.bi .abs (.cons (.v 2) .nil)) .nil))))
  .nil)
def f_common_of_three : Fn := evDef FUEL 3 3 ir_common_of_three
theorem cm_common_of_three : compDef ⟨["p", "q", "s"], fun x => t_1.lookup x, fun x => cst.lookup x⟩ (topS 2) = some ir_common_of_three := by kernel_rfl
theorem sc_common_of_three : FnScope ["p", "q", "s"] ["p", "q", "s"] (defScope (topS 2)) := ⟨rfl, rfl, rfl, by decide +kernel, rfl, by decide +kernel, by decide +kernel⟩
def t_2 : List (Str × Fn) := ("common_of_three", f_common_of_three) :: t_1
def ir_length : Ss :=
  (.cons (.asgs 3 (.call f_common_of_three (.cons (.v 0) (.cons (.v 1) (.cons (.v 2) .nil)))))
  (.cons (.ite (.cmp .lt (.v 2) (.c (.int 0))) (.cons (.asgs 3 (.neg (.v 3)))
  .nil) .nil)
  (.cons (.ret (.tup (.cons (.bin .fdiv (.v 0) (.v 3)) (.cons (.bin .fdiv (.v 1) (.v 3)) (.cons (.bin .fdiv (.v 2) (.v 3)) .nil)))))
  .nil)))
def f_length : Fn := evDef FUEL 3 4 ir_length
theorem cm_length : compDef ⟨["p", "q", "s", "divisor"], fun x => t_2.lookup x, fun x => cst.lookup x⟩ (topS 3) = some ir_length := by kernel_rfl
theorem sc_length : FnScope ["p", "q", "s", "divisor"] ["p", "q", "s"] (defScope (topS 3)) := ⟨rfl, rfl, rfl, by decide +kernel, rfl, by decide +kernel, by decide +kernel⟩
def t_3 : List (Str × Fn) := ("length", f_length) :: t_2
def ir_plus : Ss :=
  (.cons (.asg (.thr (.nm 2) (.nm 3) (.nm 4)) (.v 0))
  (.cons (.asg (.thr (.nm 5) (.nm 6) (.nm 7)) (.v 1))
  (.cons (.ret (.call f_length (.cons (.bin .add (.bin .mul (.v 2) (.v 7)) (.bin .mul (.v 5) (.v 4))) (.cons (.bin .add (.bin .mul (.v 3) (.v 7)) (.bin .mul (.v 6) (.v 4))) (.cons (.bin .mul (.v 4) (.v 7)) .nil)))))
  .nil)))
def f_plus : Fn := evDef FUEL 2 8 ir_plus
theorem cm_plus : compDef ⟨["first", "second", "p", "q", "s", "other_p", "other_q", "other_s"], fun x => t_3.lookup x, fun x => cst.lookup x⟩ (topS 4) = some ir_plus := by kernel_rfl
theorem sc_plus : FnScope ["first", "second", "p", "q", "s", "other_p", "other_q", "other_s"] ["first", "second"] (defScope (topS 4)) := ⟨rfl, rfl, rfl, by decide +kernel, rfl, by decide +kernel, by decide +kernel⟩
def t_4 : List (Str × Fn) := ("plus", f_plus) :: t_3
def ir_negative : Ss :=
  (.cons (.asg (.thr (.nm 1) (.nm 2) (.nm 3)) (.v 0))
  (.cons (.ret (.tup (.cons (.neg (.v 1)) (.cons (.neg (.v 2)) (.cons (.v 3) .nil)))))
  .nil))
def f_negative : Fn := evDef FUEL 1 4 ir_negative
theorem cm_negative : compDef ⟨["number", "p", "q", "s"], fun x => t_4.lookup x, fun x => cst.lookup x⟩ (topS 5) = some ir_negative := by kernel_rfl
theorem sc_negative : FnScope ["number", "p", "q", "s"] ["number"] (defScope (topS 5)) := ⟨rfl, rfl, rfl, by decide +kernel, rfl, by decide +kernel, by decide +kernel⟩
def t_5 : List (Str × Fn) := ("negative", f_negative) :: t_4
def ir_minus : Ss :=
  (.cons (.ret (.call f_plus (.cons (.v 0) (.cons (.call f_negative (.cons (.v 1) .nil)) .nil))))
  .nil)
def f_minus : Fn := evDef FUEL 2 2 ir_minus
theorem cm_minus : compDef ⟨["first", "second"], fun x => t_5.lookup x, fun x => cst.lookup x⟩ (topS 6) = some ir_minus := by kernel_rfl
theorem sc_minus : FnScope ["first", "second"] ["first", "second"] (defScope (topS 6)) := ⟨rfl, rfl, rfl, by decide +kernel, rfl, by decide +kernel, by decide +kernel⟩
def t_6 : List (Str × Fn) := ("minus", f_minus) :: t_5
def ir_sign_of_number : Ss :=
  (.cons (.ret (.bin .sub (.bi .int (.cons (.cmp .gt (.v 0) (.c (.int 0))) .nil)) (.bi .int (.cons (.cmp .lt (.v 0) (.c (.int 0))) .nil))))
  .nil)
def f_sign_of_number : Fn := evDef FUEL 1 1 ir_sign_of_number
theorem cm_sign_of_number : compDef ⟨["number"], fun x => t_6.lookup x, fun x => cst.lookup x⟩ (topS 8) = some ir_sign_of_number := by kernel_rfl
theorem sc_sign_of_number : FnScope ["number"] ["number"] (defScope (topS 8)) := ⟨rfl, rfl, rfl, by decide +kernel, rfl, by decide +kernel, by decide +kernel⟩
def t_7 : List (Str × Fn) := ("sign_of_number", f_sign_of_number) :: t_6
def ir_sign_of : Ss :=
  (.cons (.asg (.thr (.nm 2) (.nm 3) (.nm 4)) (.v 1))
  (.cons (.ite (.cmp .ge (.bin .mul (.v 2) (.v 3)) (.c (.int 0))) (.cons (.ret (.call f_sign_of_number (.cons (.bin .add (.v 2) (.v 3)) .nil)))
  .nil) .nil)
  (.cons (.ite (.cmp .gt (.bin .mul (.v 2) (.v 2)) (.bin .mul (.bin .mul (.v 0) (.v 3)) (.v 3))) (.cons (.ret (.call f_sign_of_number (.cons (.v 2) .nil)))
  .nil) .nil)
  (.cons (.ret (.call f_sign_of_number (.cons (.v 3) .nil)))
  .nil))))
def f_sign_of : Fn := evDef FUEL 2 5 ir_sign_of
theorem cm_sign_of : compDef ⟨["root", "number", "p", "q", "s"], fun x => t_7.lookup x, fun x => cst.lookup x⟩ (topS 9) = some ir_sign_of := by kernel_rfl
theorem sc_sign_of : FnScope ["root", "number", "p", "q", "s"] ["root", "number"] (defScope (topS 9)) := ⟨rfl, rfl, rfl, by decide +kernel, rfl, by decide +kernel, by decide +kernel⟩
def t_8 : List (Str × Fn) := ("sign_of", f_sign_of) :: t_7
def ir_compare : Ss :=
  (.cons (.ret (.call f_sign_of (.cons (.v 0) (.cons (.call f_minus (.cons (.v 1) (.cons (.v 2) .nil))) .nil))))
  .nil)
def f_compare : Fn := evDef FUEL 3 3 ir_compare
theorem cm_compare : compDef ⟨["root", "first", "second"], fun x => t_8.lookup x, fun x => cst.lookup x⟩ (topS 10) = some ir_compare := by kernel_rfl
theorem sc_compare : FnScope ["root", "first", "second"] ["root", "first", "second"] (defScope (topS 10)) := ⟨rfl, rfl, rfl, by decide +kernel, rfl, by decide +kernel, by decide +kernel⟩
def t_9 : List (Str × Fn) := ("compare", f_compare) :: t_8
def ir_right_of : Ss :=
  (.cons (.ret (.call f_plus (.cons (.ix (.v 0) (.c (.int 0))) (.cons (.ix (.v 0) (.c (.int 2))) .nil))))
  .nil)
def f_right_of : Fn := evDef FUEL 1 1 ir_right_of
theorem cm_right_of : compDef ⟨["tile"], fun x => t_9.lookup x, fun x => cst.lookup x⟩ (topS 12) = some ir_right_of := by kernel_rfl
theorem sc_right_of : FnScope ["tile"] ["tile"] (defScope (topS 12)) := ⟨rfl, rfl, rfl, by decide +kernel, rfl, by decide +kernel, by decide +kernel⟩
def t_10 : List (Str × Fn) := ("right_of", f_right_of) :: t_9
def ir_top_of : Ss :=
  (.cons (.ret (.call f_plus (.cons (.ix (.v 0) (.c (.int 1))) (.cons (.ix (.v 0) (.c (.int 3))) .nil))))
  .nil)
def f_top_of : Fn := evDef FUEL 1 1 ir_top_of
theorem cm_top_of : compDef ⟨["tile"], fun x => t_10.lookup x, fun x => cst.lookup x⟩ (topS 13) = some ir_top_of := by kernel_rfl
theorem sc_top_of : FnScope ["tile"] ["tile"] (defScope (topS 13)) := ⟨rfl, rfl, rfl, by decide +kernel, rfl, by decide +kernel, by decide +kernel⟩
def t_11 : List (Str × Fn) := ("top_of", f_top_of) :: t_10
def ir_comes_before : Ss :=
  (.cons (.asgs 3 (.call f_compare (.cons (.v 0) (.cons (.ix (.v 1) (.c (.int 1))) (.cons (.ix (.v 2) (.c (.int 1))) .nil)))))
  (.cons (.ite (.cmp .ne (.v 3) (.c (.int 0))) (.cons (.ret (.cmp .eq (.v 3) (.neg (.c (.int 1)))))
  .nil) .nil)
  (.cons (.ret (.cmp .eq (.call f_compare (.cons (.v 0) (.cons (.ix (.v 1) (.c (.int 0))) (.cons (.ix (.v 2) (.c (.int 0))) .nil)))) (.neg (.c (.int 1)))))
  .nil)))
def f_comes_before : Fn := evDef FUEL 3 4 ir_comes_before
theorem cm_comes_before : compDef ⟨["root", "tile", "other", "by_height"], fun x => t_11.lookup x, fun x => cst.lookup x⟩ (topS 14) = some ir_comes_before := by kernel_rfl
theorem sc_comes_before : FnScope ["root", "tile", "other", "by_height"] ["root", "tile", "other"] (defScope (topS 14)) := ⟨rfl, rfl, rfl, by decide +kernel, rfl, by decide +kernel, by decide +kernel⟩
def t_12 : List (Str × Fn) := ("comes_before", f_comes_before) :: t_11
def ib_merged_1 : Ss :=
  (.cons (.app 3 (.ix (.v 2) (.v 4)))
  (.cons (.asgs 4 (.bin .add (.v 4) (.c (.int 1))))
  .nil))
def iw_merged_1 : E :=
  (.and (.cmp .lt (.v 4) (.bi .len (.cons (.v 2) .nil))) (.call f_comes_before (.cons (.v 0) (.cons (.ix (.v 2) (.v 4)) (.cons (.v 5) .nil)))))
def ib_merged_2 : Ss :=
  (.cons (.while_ iw_merged_1 ib_merged_1)
  (.cons (.app 3 (.v 5))
  .nil))
def ir_merged : Ss :=
  (.cons (.asg (.nm 3) (.lst .nil))
  (.cons (.asgs 4 (.c (.int 0)))
  (.cons (.for_ (.nm 5) (.seq (.v 1)) ib_merged_2)
  (.cons (.ret (.bin .add (.v 3) (.sl (.v 2) (.yes (.v 4)) .no)))
  .nil))))
def f_merged : Fn := evDef FUEL 3 6 ir_merged
theorem cm_merged : compDef ⟨["root", "first", "second", "found", "at", "tile"], fun x => t_12.lookup x, fun x => cst.lookup x⟩ (topS 16) = some ir_merged := by kernel_rfl
theorem sc_merged : FnScope ["root", "first", "second", "found", "at", "tile"] ["root", "first", "second"] (defScope (topS 16)) := ⟨rfl, rfl, rfl, by decide +kernel, rfl, by decide +kernel, by decide +kernel⟩
def t_13 : List (Str × Fn) := ("merged", f_merged) :: t_12
def ic_in_order_1 : E :=
  (.comp [3] (.nm 3) (.seq (.v 1)) .no (.lst (.cons (.v 3) .nil)))
def ic_in_order_2 : E :=
  (.comp [5] (.nm 5) (.rng (.cons (.c (.int 0)) (.cons (.bin .sub (.bi .len (.cons (.v 2) .nil)) (.c (.int 1))) (.cons (.c (.int 2)) .nil)))) .no (.call f_merged (.cons (.v 0) (.cons (.ix (.v 2) (.v 5)) (.cons (.ix (.v 2) (.bin .add (.v 5) (.c (.int 1)))) .nil)))))
def ib_in_order_3 : Ss :=
  (.cons (.asg (.nm 4) ic_in_order_2)
  (.cons (.ite (.cmp .eq (.bin .mod (.bi .len (.cons (.v 2) .nil)) (.c (.int 2))) (.c (.int 1))) (.cons (.app 4 (.ix (.v 2) (.neg (.c (.int 1)))))
  .nil) .nil)
  (.cons (.share 4)
  (.cons (.asgs 2 (.v 4))
  .nil))))
def iw_in_order_3 : E :=
  (.cmp .gt (.bi .len (.cons (.v 2) .nil)) (.c (.int 1)))
def ir_in_order : Ss :=
  (.cons (.asgs 2 ic_in_order_1)
  (.cons (.while_ iw_in_order_3 ib_in_order_3)
  (.cons (.ite (.cmp .eq (.bi .len (.cons (.v 2) .nil)) (.c (.int 0))) (.cons (.ret (.lst .nil))
  .nil) .nil)
  (.cons (.ret (.bi .list (.cons (.ix (.v 2) (.c (.int 0))) .nil)))
  .nil))))
def f_in_order : Fn := evDef FUEL 2 6 ir_in_order
theorem cm_in_order : compDef ⟨["root", "tiles", "lists", "tile", "pairs", "at"], fun x => t_13.lookup x, fun x => cst.lookup x⟩ (topS 17) = some ir_in_order := by kernel_rfl
theorem sc_in_order : FnScope ["root", "tiles", "lists", "tile", "pairs", "at"] ["root", "tiles"] (defScope (topS 17)) := ⟨rfl, rfl, rfl, by decide +kernel, rfl, by decide +kernel, by decide +kernel⟩
def t_14 : List (Str × Fn) := ("in_order", f_in_order) :: t_13
def ir_edges_of : Ss :=
  (.cons (.ret (.lst (.cons (.tup (.cons (.ix (.v 0) (.c (.int 0))) (.cons (.ix (.v 0) (.c (.int 1))) (.cons (.call f_right_of (.cons (.v 0) .nil)) .nil)))) (.cons (.tup (.cons (.ix (.v 0) (.c (.int 0))) (.cons (.call f_top_of (.cons (.v 0) .nil)) (.cons (.call f_right_of (.cons (.v 0) .nil)) .nil)))) .nil))))
  .nil)
def f_edges_of : Fn := evDef FUEL 1 1 ir_edges_of
theorem cm_edges_of : compDef ⟨["tile"], fun x => t_14.lookup x, fun x => cst.lookup x⟩ (topS 19) = some ir_edges_of := by kernel_rfl
theorem sc_edges_of : FnScope ["tile"] ["tile"] (defScope (topS 19)) := ⟨rfl, rfl, rfl, by decide +kernel, rfl, by decide +kernel, by decide +kernel⟩
def t_15 : List (Str × Fn) := ("edges_of", f_edges_of) :: t_14
def ic_lying_lines_1 : E :=
  (.comp2 [4, 5] (.nm 4) (.seq (.v 2)) .no [5] (.nm 5) (.seq (.call f_edges_of (.cons (.v 4) .nil))) .no (.v 5))
def ib_lying_lines_2 : Ss :=
  (.cons (.ite (.or (.cmp .eq (.bi .len (.cons (.v 6) .nil)) (.c (.int 0))) (.or (.cmp .ne (.ix (.ix (.v 6) (.neg (.c (.int 1)))) (.c (.int 0))) (.v 8)) (.cmp .eq (.call f_compare (.cons (.v 0) (.cons (.v 7) (.cons (.ix (.ix (.v 6) (.neg (.c (.int 1)))) (.c (.int 2))) .nil)))) (.c (.int 1))))) (.cons (.app 6 (.tup (.cons (.v 8) (.cons (.v 7) (.cons (.v 9) .nil)))))
  .nil) (.cons (.ite (.cmp .eq (.call f_compare (.cons (.v 0) (.cons (.v 9) (.cons (.ix (.ix (.v 6) (.neg (.c (.int 1)))) (.c (.int 2))) .nil)))) (.c (.int 1))) (.cons (.put 6 (.neg (.c (.int 1))) (.tup (.cons (.v 8) (.cons (.ix (.ix (.v 6) (.neg (.c (.int 1)))) (.c (.int 1))) (.cons (.v 9) .nil)))))
  .nil) .nil)
  .nil))
  .nil)
def ir_lying_lines : Ss :=
  (.cons (.asgs 3 (.call f_in_order (.cons (.v 0) (.cons ic_lying_lines_1 .nil))))
  (.cons (.asg (.nm 6) (.lst .nil))
  (.cons (.for_ (.thr (.nm 7) (.nm 8) (.nm 9)) (.seq (.v 3)) ib_lying_lines_2)
  (.cons (.ret (.v 6))
  .nil))))
def f_lying_lines : Fn := evDef FUEL 3 10 ir_lying_lines
theorem cm_lying_lines : compDef ⟨["root", "sheet", "tiles", "edges", "tile", "edge", "found", "left", "y", "right"], fun x => t_15.lookup x, fun x => cst.lookup x⟩ (topS 20) = some ir_lying_lines := by kernel_rfl
theorem sc_lying_lines : FnScope ["root", "sheet", "tiles", "edges", "tile", "edge", "found", "left", "y", "right"] ["root", "sheet", "tiles"] (defScope (topS 20)) := ⟨rfl, rfl, rfl, by decide +kernel, rfl, by decide +kernel, by decide +kernel⟩
def t_16 : List (Str × Fn) := ("lying_lines", f_lying_lines) :: t_15
def ib_line_at_1 : Ss :=
  (.cons (.ite (.and (.cmp .eq (.ix (.ix (.v 1) (.v 4)) (.c (.int 0))) (.v 3)) (.and (.cmp .ne (.call f_compare (.cons (.v 0) (.cons (.ix (.ix (.v 1) (.v 4)) (.c (.int 1))) (.cons (.v 2) .nil)))) (.c (.int 1))) (.cmp .eq (.call f_compare (.cons (.v 0) (.cons (.v 2) (.cons (.ix (.ix (.v 1) (.v 4)) (.c (.int 2))) .nil)))) (.neg (.c (.int 1)))))) (.cons (.ret (.v 4))
  .nil) .nil)
  .nil)
def ir_line_at : Ss :=
  (.cons (.for_ (.nm 4) (.rng (.cons (.bi .len (.cons (.v 1) .nil)) .nil)) ib_line_at_1)
  (.cons (.ret (.c .none))
  .nil))
def f_line_at : Fn := evDef FUEL 4 5 ir_line_at
theorem cm_line_at : compDef ⟨["root", "lines", "x", "y", "at"], fun x => t_16.lookup x, fun x => cst.lookup x⟩ (topS 21) = some ir_line_at := by kernel_rfl
theorem sc_line_at : FnScope ["root", "lines", "x", "y", "at"] ["root", "lines", "x", "y"] (defScope (topS 21)) := ⟨rfl, rfl, rfl, by decide +kernel, rfl, by decide +kernel, by decide +kernel⟩
def t_17 : List (Str × Fn) := ("line_at", f_line_at) :: t_16
def ic_net_of_1 : E :=
  (.comp [4] (.nm 4) (.seq (.v 2)) .no (.tup (.cons (.call f_line_at (.cons (.v 0) (.cons (.v 3) (.cons (.ix (.v 4) (.c (.int 0))) (.cons (.ix (.v 4) (.c (.int 1))) .nil))))) (.cons (.call f_line_at (.cons (.v 0) (.cons (.v 3) (.cons (.ix (.v 4) (.c (.int 0))) (.cons (.call f_top_of (.cons (.v 4) .nil)) .nil))))) .nil))))
def ir_net_of : Ss :=
  (.cons (.asgs 3 (.call f_lying_lines (.cons (.v 0) (.cons (.v 1) (.cons (.v 2) .nil)))))
  (.cons (.ret ic_net_of_1)
  .nil))
def f_net_of : Fn := evDef FUEL 3 5 ir_net_of
theorem cm_net_of : compDef ⟨["root", "sheet", "tiles", "lines", "tile"], fun x => t_17.lookup x, fun x => cst.lookup x⟩ (topS 22) = some ir_net_of := by kernel_rfl
theorem sc_net_of : FnScope ["root", "sheet", "tiles", "lines", "tile"] ["root", "sheet", "tiles"] (defScope (topS 22)) := ⟨rfl, rfl, rfl, by decide +kernel, rfl, by decide +kernel, by decide +kernel⟩
def t_18 : List (Str × Fn) := ("net_of", f_net_of) :: t_17
def ib__law_draws_1 : Ss :=
  (.cons (.ite (.cmp .gt (.v 4) (.c (.int 0))) (.cons (.app 2 (.bin .mod (.v 4) (.c (.int 1000003))))
  (.cons (.asgs 4 (.bin .fdiv (.v 4) (.c (.int 1000003))))
  .nil)) .nil)
  .nil)
def ib__law_draws_2 : Ss :=
  (.cons (.asgs 6 (.bin .mod (.bin .add (.bin .add (.bin .add (.bin .mul (.v 6) (.c (.int 69621))) (.bin .fdiv (.v 6) (.c (.int 65536)))) (.bin .mul (.c (.int 13)) (.v 5))) (.c (.int 5))) (.c (.int 2147483629))))
  (.cons (.app 2 (.bin .mod (.bin .fdiv (.v 6) (.c (.int 8))) (.c (.int 1000003))))
  .nil))
def ib__law_draws_3 : Ss :=
  (.cons (.asgs 4 (.bi .abs (.cons (.bi .int (.cons (.v 3) .nil)) .nil)))
  (.cons (.ite (.cmp .ge (.v 4) (.bin .pow (.c (.int 10)) (.c (.int 18)))) (.cons (.for_ (.nm 5) (.rng (.cons (.c (.int 60)) .nil)) ib__law_draws_1)
  .nil) (.cons (.asgs 6 (.bin .mod (.bin .add (.bin .add (.bin .mul (.v 4) (.c (.int 48271))) (.bin .mul (.c (.int 7)) (.bi .len (.cons (.v 2) .nil)))) (.c (.int 11))) (.c (.int 2147483647))))
  (.cons (.for_ (.nm 5) (.rng (.cons (.c (.int 4)) .nil)) ib__law_draws_2)
  .nil)))
  .nil))
def ib__law_draws_4 : Ss :=
  (.cons (.ite (.cmp .lt (.bi .len (.cons (.v 2) .nil)) (.v 1)) (.cons (.asgs 7 (.c (.int 0)))
  (.cons (.ite (.cmp .gt (.bi .len (.cons (.v 2) .nil)) (.c (.int 0))) (.cons (.asgs 7 (.ix (.v 2) (.bin .mod (.v 5) (.bi .len (.cons (.v 2) .nil)))))
  .nil) .nil)
  (.cons (.app 2 (.bin .mod (.bin .add (.bin .add (.bin .mul (.v 7) (.c (.int 16807))) (.bin .mul (.c (.int 31)) (.bi .len (.cons (.v 2) .nil)))) (.c (.int 17))) (.c (.int 1000003))))
  .nil))) .nil)
  .nil)
def ir__law_draws : Ss :=
  (.cons (.asg (.nm 2) (.lst .nil))
  (.cons (.for_ (.nm 3) (.seq (.sl (.v 0) .no (.yes (.c (.int 63))))) ib__law_draws_3)
  (.cons (.for_ (.nm 5) (.rng (.cons (.v 1) .nil)) ib__law_draws_4)
  (.cons (.ret (.sl (.v 2) .no (.yes (.v 1))))
  .nil))))
def f__law_draws : Fn := evDef FUEL 2 8 ir__law_draws
theorem cm__law_draws : compDef ⟨["script", "many", "found", "cell", "number", "k", "mixed", "base"], fun x => t_18.lookup x, fun x => cst.lookup x⟩ (topS 24) = some ir__law_draws := by kernel_rfl
theorem sc__law_draws : FnScope ["script", "many", "found", "cell", "number", "k", "mixed", "base"] ["script", "many"] (defScope (topS 24)) := ⟨rfl, rfl, rfl, by decide +kernel, rfl, by decide +kernel, by decide +kernel⟩
def t_19 : List (Str × Fn) := ("_law_draws", f__law_draws) :: t_18
def ir__law_cell : Ss :=
  (.cons (.ite (.cmp .lt (.v 1) (.bi .len (.cons (.v 0) .nil))) (.cons (.ret (.ix (.v 0) (.v 1)))
  .nil) .nil)
  (.cons (.ret (.bin .mod (.bin .add (.bin .add (.bin .mul (.ix (.v 0) (.bin .mod (.v 1) (.bi .len (.cons (.v 0) .nil)))) (.c (.int 31))) (.bin .mul (.ix (.v 0) (.bin .mod (.bin .mul (.c (.int 7)) (.v 1)) (.bi .len (.cons (.v 0) .nil)))) (.c (.int 17)))) (.bin .mul (.c (.int 101)) (.v 1))) (.c (.int 1000003))))
  .nil))
def f__law_cell : Fn := evDef FUEL 2 2 ir__law_cell
theorem cm__law_cell : compDef ⟨["draws", "k"], fun x => t_19.lookup x, fun x => cst.lookup x⟩ (topS 25) = some ir__law_cell := by kernel_rfl
theorem sc__law_cell : FnScope ["draws", "k"] ["draws", "k"] (defScope (topS 25)) := ⟨rfl, rfl, rfl, by decide +kernel, rfl, by decide +kernel, by decide +kernel⟩
def t_20 : List (Str × Fn) := ("_law_cell", f__law_cell) :: t_19
def ir__law_root : Ss :=
  (.cons (.ret (.ix (.lst (.cons (.c (.int 2)) (.cons (.c (.int 3)) (.cons (.c (.int 5)) (.cons (.c (.int 6)) (.cons (.c (.int 7)) (.cons (.c (.int 8)) (.cons (.c (.int 10)) (.cons (.c (.int 11)) (.cons (.c (.int 13)) (.cons (.c (.int 14)) (.cons (.c (.int 15)) (.cons (.c (.int 17)) (.cons (.c (.int 19)) (.cons (.c (.int 21)) (.cons (.c (.int 23)) (.cons (.c (.int 29)) (.cons (.c (.int 31)) (.cons (.c (.int 37)) (.cons (.c (.int 41)) (.cons (.c (.int 46)) (.cons (.c (.int 50)) .nil)))))))))))))))))))))) (.bin .mod (.v 0) (.c (.int 21)))))
  .nil)
def f__law_root : Fn := evDef FUEL 1 1 ir__law_root
theorem cm__law_root : compDef ⟨["cell"], fun x => t_20.lookup x, fun x => cst.lookup x⟩ (topS 26) = some ir__law_root := by kernel_rfl
theorem sc__law_root : FnScope ["cell"] ["cell"] (defScope (topS 26)) := ⟨rfl, rfl, rfl, by decide +kernel, rfl, by decide +kernel, by decide +kernel⟩
def t_21 : List (Str × Fn) := ("_law_root", f__law_root) :: t_20
def ib__law_common_1 : Ss :=
  (.cons (.par 0 1 (.v 1) (.bin .mod (.v 0) (.v 1)))
  .nil)
def iw__law_common_1 : E :=
  (.cmp .ne (.v 1) (.c (.int 0)))
def ir__law_common : Ss :=
  (.cons (.par 0 1 (.bi .abs (.cons (.v 0) .nil)) (.bi .abs (.cons (.v 1) .nil)))
  (.cons (.while_ iw__law_common_1 ib__law_common_1)
  (.cons (.ret (.v 0))
  .nil)))
def f__law_common : Fn := evDef FUEL 2 2 ir__law_common
theorem cm__law_common : compDef ⟨["first", "second"], fun x => t_21.lookup x, fun x => cst.lookup x⟩ (topS 27) = some ir__law_common := by kernel_rfl
theorem sc__law_common : FnScope ["first", "second"] ["first", "second"] (defScope (topS 27)) := ⟨rfl, rfl, rfl, by decide +kernel, rfl, by decide +kernel, by decide +kernel⟩
def t_22 : List (Str × Fn) := ("_law_common", f__law_common) :: t_21
def ir__law_length : Ss :=
  (.cons (.asgs 3 (.bin .mul (.call f__law_common (.cons (.call f__law_common (.cons (.v 0) (.cons (.v 1) .nil))) (.cons (.v 2) .nil))) (.bin .sub (.c (.int 1)) (.bin .mul (.c (.int 2)) (.bi .int (.cons (.cmp .lt (.v 2) (.c (.int 0))) .nil))))))
  (.cons (.ret (.tup (.cons (.bin .fdiv (.v 0) (.v 3)) (.cons (.bin .fdiv (.v 1) (.v 3)) (.cons (.bin .fdiv (.v 2) (.v 3)) .nil)))))
  .nil))
def f__law_length : Fn := evDef FUEL 3 4 ir__law_length
theorem cm__law_length : compDef ⟨["p", "q", "s", "common"], fun x => t_22.lookup x, fun x => cst.lookup x⟩ (topS 28) = some ir__law_length := by kernel_rfl
theorem sc__law_length : FnScope ["p", "q", "s", "common"] ["p", "q", "s"] (defScope (topS 28)) := ⟨rfl, rfl, rfl, by decide +kernel, rfl, by decide +kernel, by decide +kernel⟩
def t_23 : List (Str × Fn) := ("_law_length", f__law_length) :: t_22
def ir__law_whole : Ss :=
  (.cons (.ret (.tup (.cons (.v 0) (.cons (.c (.int 0)) (.cons (.c (.int 1)) .nil)))))
  .nil)
def f__law_whole : Fn := evDef FUEL 1 1 ir__law_whole
theorem cm__law_whole : compDef ⟨["p"], fun x => t_23.lookup x, fun x => cst.lookup x⟩ (topS 29) = some ir__law_whole := by kernel_rfl
theorem sc__law_whole : FnScope ["p"] ["p"] (defScope (topS 29)) := ⟨rfl, rfl, rfl, by decide +kernel, rfl, by decide +kernel, by decide +kernel⟩
def t_24 : List (Str × Fn) := ("_law_whole", f__law_whole) :: t_23
def ir__law_plus : Ss :=
  (.cons (.ret (.call f__law_length (.cons (.bin .add (.bin .mul (.ix (.v 0) (.c (.int 0))) (.ix (.v 1) (.c (.int 2)))) (.bin .mul (.ix (.v 1) (.c (.int 0))) (.ix (.v 0) (.c (.int 2))))) (.cons (.bin .add (.bin .mul (.ix (.v 0) (.c (.int 1))) (.ix (.v 1) (.c (.int 2)))) (.bin .mul (.ix (.v 1) (.c (.int 1))) (.ix (.v 0) (.c (.int 2))))) (.cons (.bin .mul (.ix (.v 0) (.c (.int 2))) (.ix (.v 1) (.c (.int 2)))) .nil)))))
  .nil)
def f__law_plus : Fn := evDef FUEL 2 2 ir__law_plus
theorem cm__law_plus : compDef ⟨["first", "second"], fun x => t_24.lookup x, fun x => cst.lookup x⟩ (topS 30) = some ir__law_plus := by kernel_rfl
theorem sc__law_plus : FnScope ["first", "second"] ["first", "second"] (defScope (topS 30)) := ⟨rfl, rfl, rfl, by decide +kernel, rfl, by decide +kernel, by decide +kernel⟩
def t_25 : List (Str × Fn) := ("_law_plus", f__law_plus) :: t_24
def ir__law_minus : Ss :=
  (.cons (.ret (.call f__law_plus (.cons (.v 0) (.cons (.tup (.cons (.neg (.ix (.v 1) (.c (.int 0)))) (.cons (.neg (.ix (.v 1) (.c (.int 1)))) (.cons (.ix (.v 1) (.c (.int 2))) .nil)))) .nil))))
  .nil)
def f__law_minus : Fn := evDef FUEL 2 2 ir__law_minus
theorem cm__law_minus : compDef ⟨["first", "second"], fun x => t_25.lookup x, fun x => cst.lookup x⟩ (topS 31) = some ir__law_minus := by kernel_rfl
theorem sc__law_minus : FnScope ["first", "second"] ["first", "second"] (defScope (topS 31)) := ⟨rfl, rfl, rfl, by decide +kernel, rfl, by decide +kernel, by decide +kernel⟩
def t_26 : List (Str × Fn) := ("_law_minus", f__law_minus) :: t_25
def ir__law_times : Ss :=
  (.cons (.asgs 3 (.bin .add (.bin .mul (.ix (.v 1) (.c (.int 0))) (.ix (.v 2) (.c (.int 0)))) (.bin .mul (.bin .mul (.v 0) (.ix (.v 1) (.c (.int 1)))) (.ix (.v 2) (.c (.int 1))))))
  (.cons (.ret (.call f__law_length (.cons (.v 3) (.cons (.bin .add (.bin .mul (.ix (.v 1) (.c (.int 0))) (.ix (.v 2) (.c (.int 1)))) (.bin .mul (.ix (.v 1) (.c (.int 1))) (.ix (.v 2) (.c (.int 0))))) (.cons (.bin .mul (.ix (.v 1) (.c (.int 2))) (.ix (.v 2) (.c (.int 2)))) .nil)))))
  .nil))
def f__law_times : Fn := evDef FUEL 3 4 ir__law_times
theorem cm__law_times : compDef ⟨["root", "first", "second", "p"], fun x => t_26.lookup x, fun x => cst.lookup x⟩ (topS 32) = some ir__law_times := by kernel_rfl
theorem sc__law_times : FnScope ["root", "first", "second", "p"] ["root", "first", "second"] (defScope (topS 32)) := ⟨rfl, rfl, rfl, by decide +kernel, rfl, by decide +kernel, by decide +kernel⟩
def t_27 : List (Str × Fn) := ("_law_times", f__law_times) :: t_26
def ir__law_twin : Ss :=
  (.cons (.ret (.tup (.cons (.ix (.v 0) (.c (.int 0))) (.cons (.neg (.ix (.v 0) (.c (.int 1)))) (.cons (.ix (.v 0) (.c (.int 2))) .nil)))))
  .nil)
def f__law_twin : Fn := evDef FUEL 1 1 ir__law_twin
theorem cm__law_twin : compDef ⟨["number"], fun x => t_27.lookup x, fun x => cst.lookup x⟩ (topS 33) = some ir__law_twin := by kernel_rfl
theorem sc__law_twin : FnScope ["number"] ["number"] (defScope (topS 33)) := ⟨rfl, rfl, rfl, by decide +kernel, rfl, by decide +kernel, by decide +kernel⟩
def t_28 : List (Str × Fn) := ("_law_twin", f__law_twin) :: t_27
def ir__law_sign : Ss :=
  (.cons (.asg (.thr (.nm 2) (.nm 3) (.nm 4)) (.v 1))
  (.cons (.ite (.and (.cmp .ge (.v 2) (.c (.int 0))) (.cmp .ge (.v 3) (.c (.int 0)))) (.cons (.ret (.bi .int (.cons (.cmp .gt (.bin .add (.v 2) (.v 3)) (.c (.int 0))) .nil)))
  .nil) .nil)
  (.cons (.ite (.and (.cmp .le (.v 2) (.c (.int 0))) (.cmp .le (.v 3) (.c (.int 0)))) (.cons (.ret (.neg (.c (.int 1))))
  .nil) .nil)
  (.cons (.asgs 5 (.bin .sub (.bin .mul (.v 2) (.v 2)) (.bin .mul (.bin .mul (.v 0) (.v 3)) (.v 3))))
  (.cons (.ret (.bin .mul (.bin .sub (.c (.int 1)) (.bin .mul (.c (.int 2)) (.bi .int (.cons (.cmp .lt (.v 2) (.c (.int 0))) .nil)))) (.bin .sub (.c (.int 1)) (.bin .mul (.c (.int 2)) (.bi .int (.cons (.cmp .lt (.v 5) (.c (.int 0))) .nil))))))
  .nil)))))
def f__law_sign : Fn := evDef FUEL 2 6 ir__law_sign
theorem cm__law_sign : compDef ⟨["root", "number", "p", "q", "s", "larger"], fun x => t_28.lookup x, fun x => cst.lookup x⟩ (topS 34) = some ir__law_sign := by kernel_rfl
theorem sc__law_sign : FnScope ["root", "number", "p", "q", "s", "larger"] ["root", "number"] (defScope (topS 34)) := ⟨rfl, rfl, rfl, by decide +kernel, rfl, by decide +kernel, by decide +kernel⟩
def t_29 : List (Str × Fn) := ("_law_sign", f__law_sign) :: t_28
def ir__law_less : Ss :=
  (.cons (.ret (.cmp .eq (.call f__law_sign (.cons (.v 0) (.cons (.call f__law_minus (.cons (.v 1) (.cons (.v 2) .nil))) .nil))) (.neg (.c (.int 1)))))
  .nil)
def f__law_less : Fn := evDef FUEL 3 3 ir__law_less
theorem cm__law_less : compDef ⟨["root", "first", "second"], fun x => t_29.lookup x, fun x => cst.lookup x⟩ (topS 35) = some ir__law_less := by kernel_rfl
theorem sc__law_less : FnScope ["root", "first", "second"] ["root", "first", "second"] (defScope (topS 35)) := ⟨rfl, rfl, rfl, by decide +kernel, rfl, by decide +kernel, by decide +kernel⟩
def t_30 : List (Str × Fn) := ("_law_less", f__law_less) :: t_29
def ir__law_above : Ss :=
  (.cons (.par 3 4 (.bin .sub (.bin .mod (.call f__law_cell (.cons (.v 0) (.cons (.v 1) .nil))) (.c (.int 17))) (.c (.int 8))) (.bin .sub (.bin .mod (.bin .fdiv (.call f__law_cell (.cons (.v 0) (.cons (.bin .add (.v 1) (.c (.int 1))) .nil))) (.c (.int 3))) (.c (.int 9))) (.c (.int 4))))
  (.cons (.asgs 5 (.call f__law_length (.cons (.v 3) (.cons (.v 4) (.cons (.bin .add (.c (.int 1)) (.bin .mod (.bin .fdiv (.call f__law_cell (.cons (.v 0) (.cons (.bin .add (.v 1) (.c (.int 2))) .nil))) (.c (.int 5))) (.c (.int 4)))) .nil)))))
  (.cons (.asgs 6 (.call f__law_sign (.cons (.v 2) (.cons (.v 5) .nil))))
  (.cons (.ite (.cmp .eq (.v 6) (.c (.int 0))) (.cons (.ret (.tup (.cons (.c (.int 1)) (.cons (.c (.int 0)) (.cons (.c (.int 1)) .nil)))))
  .nil) .nil)
  (.cons (.ret (.tup (.cons (.bin .mul (.ix (.v 5) (.c (.int 0))) (.v 6)) (.cons (.bin .mul (.ix (.v 5) (.c (.int 1))) (.v 6)) (.cons (.ix (.v 5) (.c (.int 2))) .nil)))))
  .nil)))))
def f__law_above : Fn := evDef FUEL 3 7 ir__law_above
theorem cm__law_above : compDef ⟨["draws", "at", "root", "p", "q", "number", "sign"], fun x => t_30.lookup x, fun x => cst.lookup x⟩ (topS 36) = some ir__law_above := by kernel_rfl
theorem sc__law_above : FnScope ["draws", "at", "root", "p", "q", "number", "sign"] ["draws", "at", "root"] (defScope (topS 36)) := ⟨rfl, rfl, rfl, by decide +kernel, rfl, by decide +kernel, by decide +kernel⟩
def t_31 : List (Str × Fn) := ("_law_above", f__law_above) :: t_30
def ir__law_before : Ss :=
  (.cons (.ite (.cmp .ne (.ix (.v 1) (.c (.int 1))) (.ix (.v 2) (.c (.int 1)))) (.cons (.ret (.call f__law_less (.cons (.v 0) (.cons (.ix (.v 1) (.c (.int 1))) (.cons (.ix (.v 2) (.c (.int 1))) .nil)))))
  .nil) .nil)
  (.cons (.ret (.call f__law_less (.cons (.v 0) (.cons (.ix (.v 1) (.c (.int 0))) (.cons (.ix (.v 2) (.c (.int 0))) .nil)))))
  .nil))
def f__law_before : Fn := evDef FUEL 3 3 ir__law_before
theorem cm__law_before : compDef ⟨["root", "tile", "other"], fun x => t_31.lookup x, fun x => cst.lookup x⟩ (topS 37) = some ir__law_before := by kernel_rfl
theorem sc__law_before : FnScope ["root", "tile", "other"] ["root", "tile", "other"] (defScope (topS 37)) := ⟨rfl, rfl, rfl, by decide +kernel, rfl, by decide +kernel, by decide +kernel⟩
def t_32 : List (Str × Fn) := ("_law_before", f__law_before) :: t_31
def ic__law_in_order_1 : E :=
  (.comp [5] (.nm 5) (.seq (.v 2)) (.yes (.not (.call f__law_before (.cons (.v 0) (.cons (.v 3) (.cons (.v 5) .nil)))))) (.v 5))
def ib__law_in_order_2 : Ss :=
  (.cons (.asgs 4 (.bi .len (.cons ic__law_in_order_1 .nil)))
  (.cons (.ins 2 (.v 4) (.v 3))
  .nil))
def ir__law_in_order : Ss :=
  (.cons (.asg (.nm 2) (.lst .nil))
  (.cons (.for_ (.nm 3) (.seq (.v 1)) ib__law_in_order_2)
  (.cons (.ret (.v 2))
  .nil)))
def f__law_in_order : Fn := evDef FUEL 2 6 ir__law_in_order
theorem cm__law_in_order : compDef ⟨["root", "tiles", "found", "tile", "at", "other"], fun x => t_32.lookup x, fun x => cst.lookup x⟩ (topS 38) = some ir__law_in_order := by kernel_rfl
theorem sc__law_in_order : FnScope ["root", "tiles", "found", "tile", "at", "other"] ["root", "tiles"] (defScope (topS 38)) := ⟨rfl, rfl, rfl, by decide +kernel, rfl, by decide +kernel, by decide +kernel⟩
def t_33 : List (Str × Fn) := ("_law_in_order", f__law_in_order) :: t_32
def ir__law_split : Ss :=
  (.cons (.asg (.fou (.nm 4) (.nm 5) (.nm 6) (.nm 7)) (.v 1))
  (.cons (.ite (.cmp .eq (.v 2) (.c (.int 0))) (.cons (.asgs 8 (.call f__law_times (.cons (.v 0) (.cons (.v 6) (.cons (.v 3) .nil)))))
  (.cons (.ret (.lst (.cons (.tup (.cons (.v 4) (.cons (.v 5) (.cons (.v 8) (.cons (.v 7) .nil))))) (.cons (.tup (.cons (.call f__law_plus (.cons (.v 4) (.cons (.v 8) .nil))) (.cons (.v 5) (.cons (.call f__law_minus (.cons (.v 6) (.cons (.v 8) .nil))) (.cons (.v 7) .nil))))) .nil))))
  .nil)) .nil)
  (.cons (.asgs 9 (.call f__law_times (.cons (.v 0) (.cons (.v 7) (.cons (.v 3) .nil)))))
  (.cons (.ret (.lst (.cons (.tup (.cons (.v 4) (.cons (.v 5) (.cons (.v 6) (.cons (.v 9) .nil))))) (.cons (.tup (.cons (.v 4) (.cons (.call f__law_plus (.cons (.v 5) (.cons (.v 9) .nil))) (.cons (.v 6) (.cons (.call f__law_minus (.cons (.v 7) (.cons (.v 9) .nil))) .nil))))) .nil))))
  .nil))))
def f__law_split : Fn := evDef FUEL 4 10 ir__law_split
theorem cm__law_split : compDef ⟨["root", "tile", "side", "share", "x", "y", "w", "h", "left", "low"], fun x => t_33.lookup x, fun x => cst.lookup x⟩ (topS 39) = some ir__law_split := by kernel_rfl
theorem sc__law_split : FnScope ["root", "tile", "side", "share", "x", "y", "w", "h", "left", "low"] ["root", "tile", "side", "share"] (defScope (topS 39)) := ⟨rfl, rfl, rfl, by decide +kernel, rfl, by decide +kernel, by decide +kernel⟩
def t_34 : List (Str × Fn) := ("_law_split", f__law_split) :: t_33
def ir__law_wheel : Ss :=
  (.cons (.asg (.fou (.nm 3) (.nm 4) (.nm 5) (.nm 6)) (.v 1))
  (.cons (.par 7 8 (.call f__law_times (.cons (.v 0) (.cons (.v 5) (.cons (.v 2) .nil)))) (.call f__law_times (.cons (.v 0) (.cons (.v 6) (.cons (.v 2) .nil)))))
  (.cons (.share 7)
  (.cons (.share 8)
  (.cons (.par 9 10 (.call f__law_minus (.cons (.v 5) (.cons (.v 7) .nil))) (.call f__law_minus (.cons (.v 6) (.cons (.v 8) .nil))))
  (.cons (.share 9)
  (.cons (.share 10)
  (.cons (.asgs 11 (.tup (.cons (.call f__law_plus (.cons (.v 3) (.cons (.v 7) .nil))) (.cons (.call f__law_plus (.cons (.v 4) (.cons (.v 8) .nil))) (.cons (.call f__law_minus (.cons (.v 9) (.cons (.v 7) .nil))) (.cons (.call f__law_minus (.cons (.v 10) (.cons (.v 8) .nil))) .nil))))))
  (.cons (.ret (.lst (.cons (.tup (.cons (.v 3) (.cons (.v 4) (.cons (.v 9) (.cons (.v 8) .nil))))) (.cons (.tup (.cons (.call f__law_plus (.cons (.v 3) (.cons (.v 9) .nil))) (.cons (.v 4) (.cons (.v 7) (.cons (.v 10) .nil))))) (.cons (.tup (.cons (.call f__law_plus (.cons (.v 3) (.cons (.v 7) .nil))) (.cons (.call f__law_plus (.cons (.v 4) (.cons (.v 10) .nil))) (.cons (.v 9) (.cons (.v 8) .nil))))) (.cons (.tup (.cons (.v 3) (.cons (.call f__law_plus (.cons (.v 4) (.cons (.v 8) .nil))) (.cons (.v 7) (.cons (.v 10) .nil))))) (.cons (.v 11) .nil)))))))
  .nil)))))))))
def f__law_wheel : Fn := evDef FUEL 3 12 ir__law_wheel
theorem cm__law_wheel : compDef ⟨["root", "tile", "share", "x", "y", "w", "h", "a", "b", "c", "d", "inner"], fun x => t_34.lookup x, fun x => cst.lookup x⟩ (topS 40) = some ir__law_wheel := by kernel_rfl
theorem sc__law_wheel : FnScope ["root", "tile", "share", "x", "y", "w", "h", "a", "b", "c", "d", "inner"] ["root", "tile", "share"] (defScope (topS 40)) := ⟨rfl, rfl, rfl, by decide +kernel, rfl, by decide +kernel, by decide +kernel⟩
def t_35 : List (Str × Fn) := ("_law_wheel", f__law_wheel) :: t_34
def ib__law_cutting_1 : Ss :=
  (.cons (.asgs 7 (.call f__law_cell (.cons (.v 0) (.cons (.bin .add (.v 1) (.bin .mul (.c (.int 3)) (.v 6))) .nil))))
  (.cons (.asgs 8 (.bin .mod (.v 7) (.bi .len (.cons (.v 5) .nil))))
  (.cons (.asgs 9 (.bin .add (.c (.int 2)) (.bin .mod (.bin .fdiv (.call f__law_cell (.cons (.v 0) (.cons (.bin .add (.bin .add (.v 1) (.bin .mul (.c (.int 3)) (.v 6))) (.c (.int 1))) .nil))) (.c (.int 3))) (.c (.int 4)))))
  (.cons (.asgs 10 (.call f__law_length (.cons (.bin .add (.c (.int 1)) (.bin .mod (.bin .fdiv (.v 7) (.c (.int 5))) (.bin .sub (.v 9) (.c (.int 1))))) (.cons (.c (.int 0)) (.cons (.v 9) .nil)))))
  (.cons (.ite (.cmp .eq (.bin .mod (.bin .fdiv (.v 7) (.c (.int 11))) (.c (.int 5))) (.c (.int 3))) (.cons (.asgs 11 (.call f__law_wheel (.cons (.v 2) (.cons (.ix (.v 5) (.v 8)) (.cons (.call f__law_length (.cons (.c (.int 1)) (.cons (.c (.int 0)) (.cons (.bin .add (.c (.int 2)) (.v 9)) .nil)))) .nil)))))
  .nil) (.cons (.asgs 11 (.call f__law_split (.cons (.v 2) (.cons (.ix (.v 5) (.v 8)) (.cons (.bin .mod (.bin .fdiv (.v 7) (.c (.int 7))) (.c (.int 2))) (.cons (.v 10) .nil))))))
  .nil))
  (.cons (.asgs 5 (.bin .add (.bin .add (.sl (.v 5) .no (.yes (.v 8))) (.v 11)) (.sl (.v 5) (.yes (.bin .add (.v 8) (.c (.int 1)))) .no)))
  .nil))))))
def ir__law_cutting : Ss :=
  (.cons (.asgs 5 (.lst (.cons (.tup (.cons (.call f__law_whole (.cons (.c (.int 0)) .nil)) (.cons (.call f__law_whole (.cons (.c (.int 0)) .nil)) (.cons (.ix (.v 3) (.c (.int 0))) (.cons (.ix (.v 3) (.c (.int 1))) .nil))))) .nil)))
  (.cons (.for_ (.nm 6) (.rng (.cons (.v 4) .nil)) ib__law_cutting_1)
  (.cons (.ret (.call f__law_in_order (.cons (.v 2) (.cons (.v 5) .nil))))
  .nil)))
def f__law_cutting : Fn := evDef FUEL 5 12 ir__law_cutting
theorem cm__law_cutting : compDef ⟨["draws", "at", "root", "sheet", "many", "tiles", "k", "cell", "chosen", "s", "share", "made"], fun x => t_35.lookup x, fun x => cst.lookup x⟩ (topS 41) = some ir__law_cutting := by kernel_rfl
theorem sc__law_cutting : FnScope ["draws", "at", "root", "sheet", "many", "tiles", "k", "cell", "chosen", "s", "share", "made"] ["draws", "at", "root", "sheet", "many"] (defScope (topS 41)) := ⟨rfl, rfl, rfl, by decide +kernel, rfl, by decide +kernel, by decide +kernel⟩
def t_36 : List (Str × Fn) := ("_law_cutting", f__law_cutting) :: t_35
def ib__law_measure_1 : Ss :=
  (.cons (.asgs 4 (.call f__law_plus (.cons (.v 4) (.cons (.call f__law_times (.cons (.v 0) (.cons (.v 5) (.cons (.call f__law_times (.cons (.v 0) (.cons (.v 6) (.cons (.v 7) .nil)))) .nil)))) .nil))))
  .nil)
def ir__law_measure : Ss :=
  (.cons (.asgs 4 (.call f__law_whole (.cons (.c (.int 0)) .nil)))
  (.cons (.for_ (.thr (.nm 5) (.nm 6) (.nm 7)) (.seq (.lst (.cons (.tup (.cons (.ix (.v 1) (.c (.int 0))) (.cons (.v 2) (.cons (.v 3) .nil)))) (.cons (.tup (.cons (.ix (.v 1) (.c (.int 1))) (.cons (.v 2) (.cons (.call f__law_twin (.cons (.v 3) .nil)) .nil)))) (.cons (.tup (.cons (.ix (.v 1) (.c (.int 2))) (.cons (.call f__law_twin (.cons (.v 2) .nil)) (.cons (.v 3) .nil)))) (.cons (.tup (.cons (.ix (.v 1) (.c (.int 3))) (.cons (.call f__law_twin (.cons (.v 2) .nil)) (.cons (.call f__law_twin (.cons (.v 3) .nil)) .nil)))) .nil)))))) ib__law_measure_1)
  (.cons (.ret (.v 4))
  .nil)))
def f__law_measure : Fn := evDef FUEL 4 8 ir__law_measure
theorem cm__law_measure : compDef ⟨["root", "measure", "w", "h", "total", "number", "one", "other"], fun x => t_36.lookup x, fun x => cst.lookup x⟩ (topS 42) = some ir__law_measure := by kernel_rfl
theorem sc__law_measure : FnScope ["root", "measure", "w", "h", "total", "number", "one", "other"] ["root", "measure", "w", "h"] (defScope (topS 42)) := ⟨rfl, rfl, rfl, by decide +kernel, rfl, by decide +kernel, by decide +kernel⟩
def t_37 : List (Str × Fn) := ("_law_measure", f__law_measure) :: t_36
def ir__law_wheel_of_three : Ss :=
  (.cons (.asg (.thr (.nm 0) (.nm 1) (.nm 2)) (.tup (.cons (.tup (.cons (.c (.int 0)) (.cons (.c (.int 0)) (.cons (.c (.int 1)) .nil)))) (.cons (.tup (.cons (.c (.int 1)) (.cons (.c (.int 0)) (.cons (.c (.int 1)) .nil)))) (.cons (.tup (.cons (.c (.int 2)) (.cons (.c (.int 0)) (.cons (.c (.int 1)) .nil)))) .nil)))))
  (.cons (.ret (.lst (.cons (.tup (.cons (.v 0) (.cons (.v 0) (.cons (.v 2) (.cons (.v 1) .nil))))) (.cons (.tup (.cons (.v 2) (.cons (.v 0) (.cons (.v 1) (.cons (.v 2) .nil))))) (.cons (.tup (.cons (.v 0) (.cons (.v 1) (.cons (.v 1) (.cons (.v 2) .nil))))) (.cons (.tup (.cons (.v 1) (.cons (.v 1) (.cons (.v 1) (.cons (.v 1) .nil))))) (.cons (.tup (.cons (.v 1) (.cons (.v 2) (.cons (.v 2) (.cons (.v 1) .nil))))) .nil)))))))
  .nil))
def f__law_wheel_of_three : Fn := evDef FUEL 0 3 ir__law_wheel_of_three
theorem cm__law_wheel_of_three : compDef ⟨["zero", "one", "two"], fun x => t_37.lookup x, fun x => cst.lookup x⟩ (topS 43) = some ir__law_wheel_of_three := by kernel_rfl
theorem sc__law_wheel_of_three : FnScope ["zero", "one", "two"] [] (defScope (topS 43)) := ⟨rfl, rfl, rfl, by decide +kernel, rfl, by decide +kernel, by decide +kernel⟩
def t_38 : List (Str × Fn) := ("_law_wheel_of_three", f__law_wheel_of_three) :: t_37
def ib__law_sum_1 : Ss :=
  (.cons (.asgs 1 (.call f__law_plus (.cons (.v 1) (.cons (.v 2) .nil))))
  .nil)
def ir__law_sum : Ss :=
  (.cons (.asgs 1 (.call f__law_whole (.cons (.c (.int 0)) .nil)))
  (.cons (.for_ (.nm 2) (.seq (.v 0)) ib__law_sum_1)
  (.cons (.ret (.v 1))
  .nil)))
def f__law_sum : Fn := evDef FUEL 1 3 ir__law_sum
theorem cm__law_sum : compDef ⟨["lengths", "total", "number"], fun x => t_38.lookup x, fun x => cst.lookup x⟩ (topS 44) = some ir__law_sum := by kernel_rfl
theorem sc__law_sum : FnScope ["lengths", "total", "number"] ["lengths"] (defScope (topS 44)) := ⟨rfl, rfl, rfl, by decide +kernel, rfl, by decide +kernel, by decide +kernel⟩
def t_39 : List (Str × Fn) := ("_law_sum", f__law_sum) :: t_38
def ic__law_decided_1 : E :=
  (.comp [9] (.nm 9) (.rng (.cons (.bi .len (.cons (.v 2) .nil)) .nil)) (.yes (.cmp .eq (.ix (.ix (.v 5) (.v 9)) (.c (.int 1))) (.v 6))) (.ix (.ix (.v 2) (.v 9)) (.c (.int 2))))
def ic__law_decided_2 : E :=
  (.comp [9] (.nm 9) (.rng (.cons (.bi .len (.cons (.v 2) .nil)) .nil)) (.yes (.cmp .eq (.ix (.ix (.v 5) (.v 9)) (.c (.int 0))) (.v 6))) (.ix (.ix (.v 2) (.v 9)) (.c (.int 2))))
def ic__law_decided_3 : E :=
  (.comp [11] (.nm 11) (.seq (.v 8)) .no (.call f__law_twin (.cons (.v 11) .nil)))
def ic__law_decided_4 : E :=
  (.comp [11] (.nm 11) (.seq (.v 10)) .no (.call f__law_twin (.cons (.v 11) .nil)))
def ib__law_decided_5 : Ss :=
  (.cons (.asgs 7 (.call f__law_minus (.cons (.ix (.ix (.v 4) (.v 6)) (.c (.int 2))) (.cons (.ix (.ix (.v 4) (.v 6)) (.c (.int 1))) .nil))))
  (.cons (.asgs 8 ic__law_decided_1)
  (.cons (.asgs 10 ic__law_decided_2)
  (.cons (.ite (.or (.and (.cmp .gt (.v 6) (.c (.int 0))) (.cmp .ne (.call f__law_sum (.cons (.v 8) .nil)) (.v 7))) (.and (.cmp .lt (.v 6) (.bin .sub (.bi .len (.cons (.v 4) .nil)) (.c (.int 1)))) (.cmp .ne (.call f__law_sum (.cons (.v 10) .nil)) (.v 7)))) (.cons (.ret (.c (.bool false)))
  .nil) .nil)
  (.cons (.ite (.and (.chain .lt .lt (.c (.int 0)) (.v 6) (.bin .sub (.bi .len (.cons (.v 4) .nil)) (.c (.int 1)))) (.cmp .ne (.call f__law_sum (.cons ic__law_decided_3 .nil)) (.call f__law_sum (.cons ic__law_decided_4 .nil)))) (.cons (.ret (.c (.bool false)))
  .nil) .nil)
  .nil)))))
def ib__law_decided_6 : Ss :=
  (.cons (.asgs 13 (.call f__law_minus (.cons (.ix (.ix (.v 4) (.ix (.ix (.v 5) (.v 9)) (.c (.int 1)))) (.c (.int 0))) (.cons (.ix (.ix (.v 4) (.ix (.ix (.v 5) (.v 9)) (.c (.int 0)))) (.c (.int 0))) .nil))))
  (.cons (.app 12 (.call f__law_times (.cons (.v 0) (.cons (.ix (.ix (.v 2) (.v 9)) (.c (.int 2))) (.cons (.v 13) .nil)))))
  .nil))
def ic__law_decided_7 : E :=
  (.comp [14] (.nm 14) (.seq (.v 2)) .no (.call f__law_measure (.cons (.v 0) (.cons (.v 3) (.cons (.ix (.v 14) (.c (.int 2))) (.cons (.ix (.v 14) (.c (.int 3))) .nil))))))
def ir__law_decided : Ss :=
  (.cons (.asg (.two (.nm 4) (.nm 5)) (.tup (.cons (.call f_lying_lines (.cons (.v 0) (.cons (.v 1) (.cons (.bi .list (.cons (.v 2) .nil)) .nil)))) (.cons (.call f_net_of (.cons (.v 0) (.cons (.v 1) (.cons (.bi .list (.cons (.v 2) .nil)) .nil)))) .nil))))
  (.cons (.for_ (.nm 6) (.rng (.cons (.bi .len (.cons (.v 4) .nil)) .nil)) ib__law_decided_5)
  (.cons (.ite (.or (.cmp .ne (.ix (.ix (.v 4) (.c (.int 0))) (.c (.int 2))) (.ix (.v 1) (.c (.int 0)))) (.or (.cmp .ne (.ix (.ix (.v 4) (.neg (.c (.int 1)))) (.c (.int 2))) (.ix (.v 1) (.c (.int 0)))) (.cmp .ne (.ix (.ix (.v 4) (.c (.int 0))) (.c (.int 1))) (.call f__law_whole (.cons (.c (.int 0)) .nil))))) (.cons (.ret (.c (.bool false)))
  .nil) .nil)
  (.cons (.asg (.nm 12) (.lst .nil))
  (.cons (.for_ (.nm 9) (.rng (.cons (.bi .len (.cons (.v 2) .nil)) .nil)) ib__law_decided_6)
  (.cons (.ite (.cmp .ne (.call f__law_sum (.cons (.v 12) .nil)) (.call f__law_times (.cons (.v 0) (.cons (.ix (.v 1) (.c (.int 0))) (.cons (.ix (.v 1) (.c (.int 1))) .nil))))) (.cons (.ret (.c (.bool false)))
  .nil) .nil)
  (.cons (.ret (.cmp .eq (.call f__law_sum (.cons ic__law_decided_7 .nil)) (.call f__law_measure (.cons (.v 0) (.cons (.v 3) (.cons (.ix (.v 1) (.c (.int 0))) (.cons (.ix (.v 1) (.c (.int 1))) .nil)))))))
  .nil)))))))
def f__law_decided : Fn := evDef FUEL 4 15 ir__law_decided
theorem cm__law_decided : compDef ⟨["root", "sheet", "tiles", "measure", "lines", "net", "k", "length_v", "below", "j", "above", "w", "areas", "high", "tile"], fun x => t_39.lookup x, fun x => cst.lookup x⟩ (topS 45) = some ir__law_decided := by kernel_rfl
theorem sc__law_decided : FnScope ["root", "sheet", "tiles", "measure", "lines", "net", "k", "length_v", "below", "j", "above", "w", "areas", "high", "tile"] ["root", "sheet", "tiles", "measure"] (defScope (topS 45)) := ⟨rfl, rfl, rfl, by decide +kernel, rfl, by decide +kernel, by decide +kernel⟩
def t_40 : List (Str × Fn) := ("_law_decided", f__law_decided) :: t_39
def ic_law_1 : E :=
  (.comp [5] (.nm 5) (.rng (.cons (.c (.int 4)) .nil)) .no (.call f__law_above (.cons (.v 1) (.cons (.bin .add (.c (.int 14)) (.bin .mul (.c (.int 3)) (.v 5))) (.cons (.v 2) .nil)))))
def ir_law : Ss :=
  (.cons (.asgs 1 (.call f__law_draws (.cons (.v 0) (.cons (.c (.int 60)) .nil))))
  (.cons (.asgs 2 (.call f__law_root (.cons (.ix (.v 1) (.c (.int 0))) .nil)))
  (.cons (.asgs 3 (.tup (.cons (.call f__law_above (.cons (.v 1) (.cons (.c (.int 8)) (.cons (.v 2) .nil)))) (.cons (.call f__law_above (.cons (.v 1) (.cons (.c (.int 11)) (.cons (.v 2) .nil)))) .nil))))
  (.cons (.asgs 4 (.bi .tuple (.cons ic_law_1 .nil)))
  (.cons (.asgs 6 (.tup (.cons (.tup (.cons (.c (.int 6)) (.cons (.c (.int 0)) (.cons (.c (.int 1)) .nil)))) (.cons (.tup (.cons (.c (.int 6)) (.cons (.c (.int 0)) (.cons (.c (.int 1)) .nil)))) .nil))))
  (.cons (.ite (.not (.call f__law_decided (.cons (.v 2) (.cons (.v 3) (.cons (.call f__law_cutting (.cons (.v 1) (.cons (.c (.int 26)) (.cons (.v 2) (.cons (.v 3) (.cons (.bin .mod (.ix (.v 1) (.c (.int 1))) (.c (.int 6))) .nil)))))) (.cons (.v 4) .nil)))))) (.cons (.ret (.c (.bool false)))
  .nil) .nil)
  (.cons (.ite (.not (.call f__law_decided (.cons (.v 2) (.cons (.v 6) (.cons (.call f__law_cutting (.cons (.v 1) (.cons (.c (.int 42)) (.cons (.v 2) (.cons (.v 6) (.cons (.bin .add (.c (.int 1)) (.bin .mod (.ix (.v 1) (.c (.int 2))) (.c (.int 4)))) .nil)))))) (.cons (.v 4) .nil)))))) (.cons (.ret (.c (.bool false)))
  .nil) .nil)
  (.cons (.ret (.call f__law_decided (.cons (.c (.int 2)) (.cons (.tup (.cons (.tup (.cons (.c (.int 3)) (.cons (.c (.int 0)) (.cons (.c (.int 1)) .nil)))) (.cons (.tup (.cons (.c (.int 3)) (.cons (.c (.int 0)) (.cons (.c (.int 1)) .nil)))) .nil))) (.cons (.call f__law_wheel_of_three .nil) (.cons (.v 4) .nil))))))
  .nil))))))))
def f_law : Fn := evDef FUEL 1 7 ir_law
theorem cm_law : compDef ⟨["script", "draws", "root", "sheet", "measure", "k", "square"], fun x => t_40.lookup x, fun x => cst.lookup x⟩ (topS 46) = some ir_law := by kernel_rfl
theorem sc_law : FnScope ["script", "draws", "root", "sheet", "measure", "k", "square"] ["script"] (defScope (topS 46)) := ⟨rfl, rfl, rfl, by decide +kernel, rfl, by decide +kernel, by decide +kernel⟩
end K83

set_option Elab.async false
set_option linter.all false
set_option maxRecDepth 100000
set_option maxHeartbeats 4000000
namespace K83
open PySem L2 PV Qu
variable {d : Nat}
/-! ### the law's reckoning with lengths -/
theorem whole_is (n : Int) : f__law_whole [.int n] = some (false, L (n : Q d)) := by
  unfold f__law_whole evDef ir__law_whole
  simp only [q_wipeR_1, q_wipeR_2, q_asg_1, q_asg_2, q_asg_3, q_asg_4, q_asg_5, q_asg_6, q_asg_7, q_asgR_1, q_ownedArg_1, q_ownedArgs_1, q_ownedArgs_2, q_itemsOf_1, q_itemsOf_2, q_evE_1, q_evE_2, q_evE_3, q_evE_4, q_evE_5, q_evE_6, q_evE_7, q_evE_8, q_evE_9, q_evE_10, q_evE_11, q_evE_12, q_evE_13, q_evE_14, q_evE_15, q_evE_16, q_evE_17, q_evE_18, q_evE_19, q_evE_20, q_evEs_1, q_evEs_2, q_evP_1, q_evP_2, q_evC_1, q_evC_2, q_evI_1, q_evI_2, q_evRet_1, q_evS_1, q_evS_2, q_evS_3, q_evS_4, q_evS_5, q_evS_6, q_evS_7, q_evS_8, q_evS_9, q_evS_10, q_evS_11, q_evS_12, q_evS_13, q_evS_14, q_evS_15, q_evS_16, q_evSs_1, q_evSs_2, q_oa_0, q_rt_0, q_oa_1, q_rt_1, q_oa_2, q_rt_2, q_oa_3, q_rt_3, q_oa_4, q_rt_4, q_oa_5, q_rt_5, q_oa_6, q_rt_6, q_oa_7, q_rt_7, q_oa_8, q_rt_8, q_oa_9, q_rt_9, q_oa_10, q_rt_10, q_oa_11, q_rt_11, q_oa_12, q_rt_12, q_oa_13, q_rt_13, q_oa_14, q_rt_14, q_oa_15, q_rt_15, q_oa_16, q_rt_16, q_oa_17, q_rt_17, q_oa_18, q_rt_18, q_ar_0, q_ar_1, q_ar_2, asI_i, q_ret, q_bind, q_bindn, q_map, q_mapn, q_evT, q_own, startR, List.getElem?_cons_succ, List.getElem?_cons_zero, List.set_cons_succ, List.set_cons_zero, List.map_cons, List.map_nil, List.replicate, List.length_cons, List.length_nil, List.append_eq, List.nil_append, List.cons_append, Bool.and_true, Bool.true_and, Bool.and_false, Bool.false_and, Bool.not_true, Bool.not_false, if_true, if_false, reduceCtorEq, Nat.reduceSub, Nat.reduceAdd, Nat.reduceLeDiff, Bool.false_eq_true, Bool.or_false, Bool.false_or, ite_true, ite_false, lenOk_0, lenOk_1, lenOk_2, lenOk_3, lenOk_4, lenOk_5, lenOk_6, lenOk_7, lenOk_8, i_add, i_sub, i_neg, i_asI, N_int, i_inti, i_intb, decide_true, decide_false]
  rw [L_int (d := d)]
theorem common_is {a b : Int} {k : Nat} (hb : b.natAbs < 2 ^ k) (hk : k ≤ 9000) : f__law_common [.int a, .int b] = some (false, .int (Int.gcd a b : Nat)) := by
  have e := gcd_loop (c := tst iw__law_common_1) (f := blk FUEL ib__law_common_1) (fun a b => by
    unfold tst iw__law_common_1
    simp only [q_wipeR_1, q_wipeR_2, q_asg_1, q_asg_2, q_asg_3, q_asg_4, q_asg_5, q_asg_6, q_asg_7, q_asgR_1, q_ownedArg_1, q_ownedArgs_1, q_ownedArgs_2, q_itemsOf_1, q_itemsOf_2, q_evE_1, q_evE_2, q_evE_3, q_evE_4, q_evE_5, q_evE_6, q_evE_7, q_evE_8, q_evE_9, q_evE_10, q_evE_11, q_evE_12, q_evE_13, q_evE_14, q_evE_15, q_evE_16, q_evE_17, q_evE_18, q_evE_19, q_evE_20, q_evEs_1, q_evEs_2, q_evP_1, q_evP_2, q_evC_1, q_evC_2, q_evI_1, q_evI_2, q_evRet_1, q_evS_1, q_evS_2, q_evS_3, q_evS_4, q_evS_5, q_evS_6, q_evS_7, q_evS_8, q_evS_9, q_evS_10, q_evS_11, q_evS_12, q_evS_13, q_evS_14, q_evS_15, q_evS_16, q_evSs_1, q_evSs_2, q_oa_0, q_rt_0, q_oa_1, q_rt_1, q_oa_2, q_rt_2, q_oa_3, q_rt_3, q_oa_4, q_rt_4, q_oa_5, q_rt_5, q_oa_6, q_rt_6, q_oa_7, q_rt_7, q_oa_8, q_rt_8, q_oa_9, q_rt_9, q_oa_10, q_rt_10, q_oa_11, q_rt_11, q_oa_12, q_rt_12, q_oa_13, q_rt_13, q_oa_14, q_rt_14, q_oa_15, q_rt_15, q_oa_16, q_rt_16, q_oa_17, q_rt_17, q_oa_18, q_rt_18, q_ar_0, q_ar_1, q_ar_2, asI_i, q_ret, q_bind, q_bindn, q_map, q_mapn, q_evT, q_own, startR, List.getElem?_cons_succ, List.getElem?_cons_zero, List.set_cons_succ, List.set_cons_zero, List.map_cons, List.map_nil, List.replicate, List.length_cons, List.length_nil, List.append_eq, List.nil_append, List.cons_append, Bool.and_true, Bool.true_and, Bool.and_false, Bool.false_and, Bool.not_true, Bool.not_false, if_true, if_false, reduceCtorEq, Nat.reduceSub, Nat.reduceAdd, Nat.reduceLeDiff, Bool.false_eq_true, Bool.or_false, Bool.false_or, ite_true, ite_false, lenOk_0, lenOk_1, lenOk_2, lenOk_3, lenOk_4, lenOk_5, lenOk_6, lenOk_7, lenOk_8, i_add, i_sub, i_neg, i_asI, N_int, i_inti, i_intb, decide_true, decide_false, i_ne]
    congr 1
    by_cases h : b = 0
    · subst h; rfl
    · rw [decide_eq_false (by omega), decide_eq_true (by omega)]; rfl) (fun a b h => by
    unfold blk ib__law_common_1
    simp only [q_wipeR_1, q_wipeR_2, q_asg_1, q_asg_2, q_asg_3, q_asg_4, q_asg_5, q_asg_6, q_asg_7, q_asgR_1, q_ownedArg_1, q_ownedArgs_1, q_ownedArgs_2, q_itemsOf_1, q_itemsOf_2, q_evE_1, q_evE_2, q_evE_3, q_evE_4, q_evE_5, q_evE_6, q_evE_7, q_evE_8, q_evE_9, q_evE_10, q_evE_11, q_evE_12, q_evE_13, q_evE_14, q_evE_15, q_evE_16, q_evE_17, q_evE_18, q_evE_19, q_evE_20, q_evEs_1, q_evEs_2, q_evP_1, q_evP_2, q_evC_1, q_evC_2, q_evI_1, q_evI_2, q_evRet_1, q_evS_1, q_evS_2, q_evS_3, q_evS_4, q_evS_5, q_evS_6, q_evS_7, q_evS_8, q_evS_9, q_evS_10, q_evS_11, q_evS_12, q_evS_13, q_evS_14, q_evS_15, q_evS_16, q_evSs_1, q_evSs_2, q_oa_0, q_rt_0, q_oa_1, q_rt_1, q_oa_2, q_rt_2, q_oa_3, q_rt_3, q_oa_4, q_rt_4, q_oa_5, q_rt_5, q_oa_6, q_rt_6, q_oa_7, q_rt_7, q_oa_8, q_rt_8, q_oa_9, q_rt_9, q_oa_10, q_rt_10, q_oa_11, q_rt_11, q_oa_12, q_rt_12, q_oa_13, q_rt_13, q_oa_14, q_rt_14, q_oa_15, q_rt_15, q_oa_16, q_rt_16, q_oa_17, q_rt_17, q_oa_18, q_rt_18, q_ar_0, q_ar_1, q_ar_2, asI_i, q_ret, q_bind, q_bindn, q_map, q_mapn, q_evT, q_own, startR, List.getElem?_cons_succ, List.getElem?_cons_zero, List.set_cons_succ, List.set_cons_zero, List.map_cons, List.map_nil, List.replicate, List.length_cons, List.length_nil, List.append_eq, List.nil_append, List.cons_append, Bool.and_true, Bool.true_and, Bool.and_false, Bool.false_and, Bool.not_true, Bool.not_false, if_true, if_false, reduceCtorEq, Nat.reduceSub, Nat.reduceAdd, Nat.reduceLeDiff, Bool.false_eq_true, Bool.or_false, Bool.false_or, ite_true, ite_false, lenOk_0, lenOk_1, lenOk_2, lenOk_3, lenOk_4, lenOk_5, lenOk_6, lenOk_7, lenOk_8, i_add, i_sub, i_neg, i_asI, N_int, i_inti, i_intb, decide_true, decide_false, i_mod (show (0 : Int) < b by omega)]
    rfl) k a.natAbs b.natAbs FUEL hb (fuel_gcd hk)
  unfold f__law_common evDef ir__law_common
  simp only [q_wipeR_1, q_wipeR_2, q_asg_1, q_asg_2, q_asg_3, q_asg_4, q_asg_5, q_asg_6, q_asg_7, q_asgR_1, q_ownedArg_1, q_ownedArgs_1, q_ownedArgs_2, q_itemsOf_1, q_itemsOf_2, q_evE_1, q_evE_2, q_evE_3, q_evE_4, q_evE_5, q_evE_6, q_evE_7, q_evE_8, q_evE_9, q_evE_10, q_evE_11, q_evE_12, q_evE_13, q_evE_14, q_evE_15, q_evE_16, q_evE_17, q_evE_18, q_evE_19, q_evE_20, q_evEs_1, q_evEs_2, q_evP_1, q_evP_2, q_evC_1, q_evC_2, q_evI_1, q_evI_2, q_evRet_1, q_evS_1, q_evS_2, q_evS_3, q_evS_4, q_evS_5, q_evS_6, q_evS_7, q_evS_8, q_evS_9, q_evS_10, q_evS_11, q_evS_12, q_evS_13, q_evS_14, q_evS_15, q_evS_16, q_evSs_1, q_evSs_2, q_oa_0, q_rt_0, q_oa_1, q_rt_1, q_oa_2, q_rt_2, q_oa_3, q_rt_3, q_oa_4, q_rt_4, q_oa_5, q_rt_5, q_oa_6, q_rt_6, q_oa_7, q_rt_7, q_oa_8, q_rt_8, q_oa_9, q_rt_9, q_oa_10, q_rt_10, q_oa_11, q_rt_11, q_oa_12, q_rt_12, q_oa_13, q_rt_13, q_oa_14, q_rt_14, q_oa_15, q_rt_15, q_oa_16, q_rt_16, q_oa_17, q_rt_17, q_oa_18, q_rt_18, q_ar_0, q_ar_1, q_ar_2, asI_i, q_ret, q_bind, q_bindn, q_map, q_mapn, q_evT, q_own, startR, List.getElem?_cons_succ, List.getElem?_cons_zero, List.set_cons_succ, List.set_cons_zero, List.map_cons, List.map_nil, List.replicate, List.length_cons, List.length_nil, List.append_eq, List.nil_append, List.cons_append, Bool.and_true, Bool.true_and, Bool.and_false, Bool.false_and, Bool.not_true, Bool.not_false, if_true, if_false, reduceCtorEq, Nat.reduceSub, Nat.reduceAdd, Nat.reduceLeDiff, Bool.false_eq_true, Bool.or_false, Bool.false_or, ite_true, ite_false, lenOk_0, lenOk_1, lenOk_2, lenOk_3, lenOk_4, lenOk_5, lenOk_6, lenOk_7, lenOk_8, i_add, i_sub, i_neg, i_asI, N_int, i_inti, i_intb, decide_true, decide_false, i_abs]
  rw [e]
  simp only [q_wipeR_1, q_wipeR_2, q_asg_1, q_asg_2, q_asg_3, q_asg_4, q_asg_5, q_asg_6, q_asg_7, q_asgR_1, q_ownedArg_1, q_ownedArgs_1, q_ownedArgs_2, q_itemsOf_1, q_itemsOf_2, q_evE_1, q_evE_2, q_evE_3, q_evE_4, q_evE_5, q_evE_6, q_evE_7, q_evE_8, q_evE_9, q_evE_10, q_evE_11, q_evE_12, q_evE_13, q_evE_14, q_evE_15, q_evE_16, q_evE_17, q_evE_18, q_evE_19, q_evE_20, q_evEs_1, q_evEs_2, q_evP_1, q_evP_2, q_evC_1, q_evC_2, q_evI_1, q_evI_2, q_evRet_1, q_evS_1, q_evS_2, q_evS_3, q_evS_4, q_evS_5, q_evS_6, q_evS_7, q_evS_8, q_evS_9, q_evS_10, q_evS_11, q_evS_12, q_evS_13, q_evS_14, q_evS_15, q_evS_16, q_evSs_1, q_evSs_2, q_oa_0, q_rt_0, q_oa_1, q_rt_1, q_oa_2, q_rt_2, q_oa_3, q_rt_3, q_oa_4, q_rt_4, q_oa_5, q_rt_5, q_oa_6, q_rt_6, q_oa_7, q_rt_7, q_oa_8, q_rt_8, q_oa_9, q_rt_9, q_oa_10, q_rt_10, q_oa_11, q_rt_11, q_oa_12, q_rt_12, q_oa_13, q_rt_13, q_oa_14, q_rt_14, q_oa_15, q_rt_15, q_oa_16, q_rt_16, q_oa_17, q_rt_17, q_oa_18, q_rt_18, q_ar_0, q_ar_1, q_ar_2, asI_i, q_ret, q_bind, q_bindn, q_map, q_mapn, q_evT, q_own, startR, List.getElem?_cons_succ, List.getElem?_cons_zero, List.set_cons_succ, List.set_cons_zero, List.map_cons, List.map_nil, List.replicate, List.length_cons, List.length_nil, List.append_eq, List.nil_append, List.cons_append, Bool.and_true, Bool.true_and, Bool.and_false, Bool.false_and, Bool.not_true, Bool.not_false, if_true, if_false, reduceCtorEq, Nat.reduceSub, Nat.reduceAdd, Nat.reduceLeDiff, Bool.false_eq_true, Bool.or_false, Bool.false_or, ite_true, ite_false, lenOk_0, lenOk_1, lenOk_2, lenOk_3, lenOk_4, lenOk_5, lenOk_6, lenOk_7, lenOk_8, i_add, i_sub, i_neg, i_asI, N_int, i_inti, i_intb, decide_true, decide_false]
  rfl
theorem length_is {p q s : Int} {k : Nat} (h0 : s ≠ 0) (hp : p.natAbs < 2 ^ k) (hq : q.natAbs < 2 ^ k) (hs : s.natAbs < 2 ^ k) (hk : k ≤ 8900) : f__law_length [.int p, .int q, .int s] = some (false, L (mkQ d p q s)) := by
  have c1 := common_is (a := p) (b := q) hq (by omega)
  have c2 := common_is (a := (Int.gcd p q : Nat)) (b := s) hs (by omega)
  have hz := dv_ne (p := p) (q := q) h0
  have hd : divOk (dv p q s) = true := divOk_b hz (Nat.lt_of_le_of_lt (dv_le h0) hs) hk
  have hg : (Int.gcd (Int.gcd p q : Nat) s) ≤ s.natAbs := by
    have := dv_le (p := p) (q := q) h0
    unfold dv g3 at this
    split at this <;> omega
  have m1 : ∀ k : Bool, mulOk 2 (if k = true then 1 else 0) = true := fun k => by cases k <;> decide
  have m2 : ∀ k : Bool, mulOk (Int.gcd (Int.gcd p q : Nat) s : Nat) (1 - 2 * (if k = true then 1 else 0)) = true := fun b => mulOk_b (k := k) (l := 2) (by rw [Int.natAbs_natCast]; exact Nat.lt_of_le_of_lt hg hs) (by cases b <;> decide) (by omega)
  have e : (Int.gcd (Int.gcd p q : Nat) s : Int) * (1 - 2 * (if (decide (s < 0)) = true then 1 else 0)) = dv p q s := by
    unfold dv g3
    by_cases h : s < 0
    · rw [if_pos h, decide_eq_true h]
      simp only [if_true]
      omega
    · rw [if_neg h, decide_eq_false h]
      simp only [Bool.false_eq_true, if_false]
      omega
  unfold f__law_length evDef ir__law_length
  simp only [q_wipeR_1, q_wipeR_2, q_asg_1, q_asg_2, q_asg_3, q_asg_4, q_asg_5, q_asg_6, q_asg_7, q_asgR_1, q_ownedArg_1, q_ownedArgs_1, q_ownedArgs_2, q_itemsOf_1, q_itemsOf_2, q_evE_1, q_evE_2, q_evE_3, q_evE_4, q_evE_5, q_evE_6, q_evE_7, q_evE_8, q_evE_9, q_evE_10, q_evE_11, q_evE_12, q_evE_13, q_evE_14, q_evE_15, q_evE_16, q_evE_17, q_evE_18, q_evE_19, q_evE_20, q_evEs_1, q_evEs_2, q_evP_1, q_evP_2, q_evC_1, q_evC_2, q_evI_1, q_evI_2, q_evRet_1, q_evS_1, q_evS_2, q_evS_3, q_evS_4, q_evS_5, q_evS_6, q_evS_7, q_evS_8, q_evS_9, q_evS_10, q_evS_11, q_evS_12, q_evS_13, q_evS_14, q_evS_15, q_evS_16, q_evSs_1, q_evSs_2, q_oa_0, q_rt_0, q_oa_1, q_rt_1, q_oa_2, q_rt_2, q_oa_3, q_rt_3, q_oa_4, q_rt_4, q_oa_5, q_rt_5, q_oa_6, q_rt_6, q_oa_7, q_rt_7, q_oa_8, q_rt_8, q_oa_9, q_rt_9, q_oa_10, q_rt_10, q_oa_11, q_rt_11, q_oa_12, q_rt_12, q_oa_13, q_rt_13, q_oa_14, q_rt_14, q_oa_15, q_rt_15, q_oa_16, q_rt_16, q_oa_17, q_rt_17, q_oa_18, q_rt_18, q_ar_0, q_ar_1, q_ar_2, asI_i, q_ret, q_bind, q_bindn, q_map, q_mapn, q_evT, q_own, startR, List.getElem?_cons_succ, List.getElem?_cons_zero, List.set_cons_succ, List.set_cons_zero, List.map_cons, List.map_nil, List.replicate, List.length_cons, List.length_nil, List.append_eq, List.nil_append, List.cons_append, Bool.and_true, Bool.true_and, Bool.and_false, Bool.false_and, Bool.not_true, Bool.not_false, if_true, if_false, reduceCtorEq, Nat.reduceSub, Nat.reduceAdd, Nat.reduceLeDiff, Bool.false_eq_true, Bool.or_false, Bool.false_or, ite_true, ite_false, lenOk_0, lenOk_1, lenOk_2, lenOk_3, lenOk_4, lenOk_5, lenOk_6, lenOk_7, lenOk_8, i_add, i_sub, i_neg, i_asI, N_int, i_inti, i_intb, decide_true, decide_false, c1, c2, i_lt, i_mul, m1, m2, e, i_fdiv, hd]
  rw [L_nz h0 rfl]
/-- two factors in bounds -/
theorem mul_of {a b : Int} {k l : Nat} (ha : a.natAbs < 2 ^ k) (hb : b.natAbs < 2 ^ l) (h : k + l ≤ 900000) : mulOk a b = true := mulOk_b ha hb h
theorem plus_sz {x y : Q d} {k l : Nat} (hx : Sz k x) (hy : Sz l y) : Sz (k + l + 1) (x + y) := by
  have hs : x.s * y.s ≠ 0 := by have := Int.mul_pos (s_pos x) (s_pos y); omega
  rw [← t_plus]
  exact Sz.of hs (nat_add_lt (nat_mul_lt hx.p hy.s) (by rw [Nat.add_comm k l]; exact nat_mul_lt hy.p hx.s)) (nat_add_lt (nat_mul_lt hx.q hy.s) (by rw [Nat.add_comm k l]; exact nat_mul_lt hy.q hx.s)) (nat_lt_mono (nat_mul_lt hx.s hy.s) (by omega))
theorem law_plus_is {x y : Q d} {k l : Nat} (hx : Sz k x) (hy : Sz l y) (h : k + l ≤ 8800) : f__law_plus [L x, L y] = some (false, L (x + y)) := by
  have hs : x.s * y.s ≠ 0 := by have := Int.mul_pos (s_pos x) (s_pos y); omega
  have e := length_is (d := d) (k := k + l + 1) hs (nat_add_lt (nat_mul_lt hx.p hy.s) (by rw [Nat.add_comm k l]; exact nat_mul_lt hy.p hx.s)) (nat_add_lt (nat_mul_lt hx.q hy.s) (by rw [Nat.add_comm k l]; exact nat_mul_lt hy.q hx.s)) (nat_lt_mono (nat_mul_lt hx.s hy.s) (by omega)) (by omega)
  rw [t_plus] at e
  unfold f__law_plus evDef ir__law_plus
  simp only [q_wipeR_1, q_wipeR_2, q_asg_1, q_asg_2, q_asg_3, q_asg_4, q_asg_5, q_asg_6, q_asg_7, q_asgR_1, q_ownedArg_1, q_ownedArgs_1, q_ownedArgs_2, q_itemsOf_1, q_itemsOf_2, q_evE_1, q_evE_2, q_evE_3, q_evE_4, q_evE_5, q_evE_6, q_evE_7, q_evE_8, q_evE_9, q_evE_10, q_evE_11, q_evE_12, q_evE_13, q_evE_14, q_evE_15, q_evE_16, q_evE_17, q_evE_18, q_evE_19, q_evE_20, q_evEs_1, q_evEs_2, q_evP_1, q_evP_2, q_evC_1, q_evC_2, q_evI_1, q_evI_2, q_evRet_1, q_evS_1, q_evS_2, q_evS_3, q_evS_4, q_evS_5, q_evS_6, q_evS_7, q_evS_8, q_evS_9, q_evS_10, q_evS_11, q_evS_12, q_evS_13, q_evS_14, q_evS_15, q_evS_16, q_evSs_1, q_evSs_2, q_oa_0, q_rt_0, q_oa_1, q_rt_1, q_oa_2, q_rt_2, q_oa_3, q_rt_3, q_oa_4, q_rt_4, q_oa_5, q_rt_5, q_oa_6, q_rt_6, q_oa_7, q_rt_7, q_oa_8, q_rt_8, q_oa_9, q_rt_9, q_oa_10, q_rt_10, q_oa_11, q_rt_11, q_oa_12, q_rt_12, q_oa_13, q_rt_13, q_oa_14, q_rt_14, q_oa_15, q_rt_15, q_oa_16, q_rt_16, q_oa_17, q_rt_17, q_oa_18, q_rt_18, q_ar_0, q_ar_1, q_ar_2, asI_i, q_ret, q_bind, q_bindn, q_map, q_mapn, q_evT, q_own, startR, List.getElem?_cons_succ, List.getElem?_cons_zero, List.set_cons_succ, List.set_cons_zero, List.map_cons, List.map_nil, List.replicate, List.length_cons, List.length_nil, List.append_eq, List.nil_append, List.cons_append, Bool.and_true, Bool.true_and, Bool.and_false, Bool.false_and, Bool.not_true, Bool.not_false, if_true, if_false, reduceCtorEq, Nat.reduceSub, Nat.reduceAdd, Nat.reduceLeDiff, Bool.false_eq_true, Bool.or_false, Bool.false_or, ite_true, ite_false, lenOk_0, lenOk_1, lenOk_2, lenOk_3, lenOk_4, lenOk_5, lenOk_6, lenOk_7, lenOk_8, i_add, i_sub, i_neg, i_asI, N_int, i_inti, i_intb, decide_true, decide_false, L_0, L_1, L_2, i_mul, mul_of hx.p hy.s (by omega), mul_of hy.p hx.s (by omega), mul_of hx.q hy.s (by omega), mul_of hy.q hx.s (by omega), mul_of hx.s hy.s (by omega), e]
theorem times_sz {x y : Q d} {k l : Nat} (hd : d < 64) (hx : Sz k x) (hy : Sz l y) : Sz (k + l + 7) (x * y) := by
  have hs : x.s * y.s ≠ 0 := by have := Int.mul_pos (s_pos x) (s_pos y); omega
  have h6 : ((d : Int)).natAbs < 2 ^ 6 := by omega
  rw [← t_times]
  refine Sz.of hs (nat_add_lt (k := k + l + 6) (nat_lt_mono (nat_mul_lt hx.p hy.p) (by omega)) (nat_lt_mono (nat_mul_lt (nat_mul_lt h6 hx.q) hy.q) (by omega))) (nat_lt_mono (nat_add_lt (k := k + l) (nat_mul_lt hx.p hy.q) (nat_mul_lt hx.q hy.p)) (by omega)) (nat_lt_mono (nat_mul_lt hx.s hy.s) (by omega))
theorem law_times_is {x y : Q d} {k l : Nat} (hd : d < 64) (hx : Sz k x) (hy : Sz l y) (h : k + l ≤ 8800) : f__law_times [.int (d : Int), L x, L y] = some (false, L (x * y)) := by
  have hs : x.s * y.s ≠ 0 := by have := Int.mul_pos (s_pos x) (s_pos y); omega
  have h6 : ((d : Int)).natAbs < 2 ^ 6 := by omega
  have e := length_is (d := d) (k := k + l + 7) hs (nat_add_lt (k := k + l + 6) (nat_lt_mono (nat_mul_lt hx.p hy.p) (by omega)) (nat_lt_mono (nat_mul_lt (nat_mul_lt h6 hx.q) hy.q) (by omega))) (nat_lt_mono (nat_add_lt (k := k + l) (nat_mul_lt hx.p hy.q) (nat_mul_lt hx.q hy.p)) (by omega)) (nat_lt_mono (nat_mul_lt hx.s hy.s) (by omega)) (by omega)
  rw [t_times] at e
  unfold f__law_times evDef ir__law_times
  simp only [q_wipeR_1, q_wipeR_2, q_asg_1, q_asg_2, q_asg_3, q_asg_4, q_asg_5, q_asg_6, q_asg_7, q_asgR_1, q_ownedArg_1, q_ownedArgs_1, q_ownedArgs_2, q_itemsOf_1, q_itemsOf_2, q_evE_1, q_evE_2, q_evE_3, q_evE_4, q_evE_5, q_evE_6, q_evE_7, q_evE_8, q_evE_9, q_evE_10, q_evE_11, q_evE_12, q_evE_13, q_evE_14, q_evE_15, q_evE_16, q_evE_17, q_evE_18, q_evE_19, q_evE_20, q_evEs_1, q_evEs_2, q_evP_1, q_evP_2, q_evC_1, q_evC_2, q_evI_1, q_evI_2, q_evRet_1, q_evS_1, q_evS_2, q_evS_3, q_evS_4, q_evS_5, q_evS_6, q_evS_7, q_evS_8, q_evS_9, q_evS_10, q_evS_11, q_evS_12, q_evS_13, q_evS_14, q_evS_15, q_evS_16, q_evSs_1, q_evSs_2, q_oa_0, q_rt_0, q_oa_1, q_rt_1, q_oa_2, q_rt_2, q_oa_3, q_rt_3, q_oa_4, q_rt_4, q_oa_5, q_rt_5, q_oa_6, q_rt_6, q_oa_7, q_rt_7, q_oa_8, q_rt_8, q_oa_9, q_rt_9, q_oa_10, q_rt_10, q_oa_11, q_rt_11, q_oa_12, q_rt_12, q_oa_13, q_rt_13, q_oa_14, q_rt_14, q_oa_15, q_rt_15, q_oa_16, q_rt_16, q_oa_17, q_rt_17, q_oa_18, q_rt_18, q_ar_0, q_ar_1, q_ar_2, asI_i, q_ret, q_bind, q_bindn, q_map, q_mapn, q_evT, q_own, startR, List.getElem?_cons_succ, List.getElem?_cons_zero, List.set_cons_succ, List.set_cons_zero, List.map_cons, List.map_nil, List.replicate, List.length_cons, List.length_nil, List.append_eq, List.nil_append, List.cons_append, Bool.and_true, Bool.true_and, Bool.and_false, Bool.false_and, Bool.not_true, Bool.not_false, if_true, if_false, reduceCtorEq, Nat.reduceSub, Nat.reduceAdd, Nat.reduceLeDiff, Bool.false_eq_true, Bool.or_false, Bool.false_or, ite_true, ite_false, lenOk_0, lenOk_1, lenOk_2, lenOk_3, lenOk_4, lenOk_5, lenOk_6, lenOk_7, lenOk_8, i_add, i_sub, i_neg, i_asI, N_int, i_inti, i_intb, decide_true, decide_false, L_0, L_1, L_2, i_mul, mul_of hx.p hy.p (by omega), mul_of h6 hx.q (by omega), mul_of (nat_mul_lt h6 hx.q) hy.q (by omega), mul_of hx.p hy.q (by omega), mul_of hx.q hy.p (by omega), mul_of hx.s hy.s (by omega), e]
theorem L_conj (x : Q d) : L x.conj = .tuple [.int x.p, .int (-x.q), .int x.s] := by
  obtain ⟨h1, h2, h3⟩ := conj_rep x
  rw [L_def, h1, h2, h3]
theorem L_negt (x : Q d) : PyData.tuple [.int (-x.p), .int (-x.q), .int x.s] = L (-x) := by
  obtain ⟨h1, h2, h3⟩ := neg_rep x
  rw [L_def, h1, h2, h3]
theorem conj_sz {x : Q d} {k : Nat} (h : Sz k x) : Sz k x.conj := by
  obtain ⟨h1, h2, h3⟩ := conj_rep x
  exact ⟨by rw [h1]; exact h.p, by rw [h2, Int.natAbs_neg]; exact h.q, by rw [h3]; exact h.s⟩
theorem neg_sz {x : Q d} {k : Nat} (h : Sz k x) : Sz k (-x) := by
  obtain ⟨h1, h2, h3⟩ := neg_rep x
  exact ⟨by rw [h1, Int.natAbs_neg]; exact h.p, by rw [h2, Int.natAbs_neg]; exact h.q, by rw [h3]; exact h.s⟩
theorem law_twin_is (x : Q d) : f__law_twin [L x] = some (false, L x.conj) := by
  unfold f__law_twin evDef ir__law_twin
  simp only [q_wipeR_1, q_wipeR_2, q_asg_1, q_asg_2, q_asg_3, q_asg_4, q_asg_5, q_asg_6, q_asg_7, q_asgR_1, q_ownedArg_1, q_ownedArgs_1, q_ownedArgs_2, q_itemsOf_1, q_itemsOf_2, q_evE_1, q_evE_2, q_evE_3, q_evE_4, q_evE_5, q_evE_6, q_evE_7, q_evE_8, q_evE_9, q_evE_10, q_evE_11, q_evE_12, q_evE_13, q_evE_14, q_evE_15, q_evE_16, q_evE_17, q_evE_18, q_evE_19, q_evE_20, q_evEs_1, q_evEs_2, q_evP_1, q_evP_2, q_evC_1, q_evC_2, q_evI_1, q_evI_2, q_evRet_1, q_evS_1, q_evS_2, q_evS_3, q_evS_4, q_evS_5, q_evS_6, q_evS_7, q_evS_8, q_evS_9, q_evS_10, q_evS_11, q_evS_12, q_evS_13, q_evS_14, q_evS_15, q_evS_16, q_evSs_1, q_evSs_2, q_oa_0, q_rt_0, q_oa_1, q_rt_1, q_oa_2, q_rt_2, q_oa_3, q_rt_3, q_oa_4, q_rt_4, q_oa_5, q_rt_5, q_oa_6, q_rt_6, q_oa_7, q_rt_7, q_oa_8, q_rt_8, q_oa_9, q_rt_9, q_oa_10, q_rt_10, q_oa_11, q_rt_11, q_oa_12, q_rt_12, q_oa_13, q_rt_13, q_oa_14, q_rt_14, q_oa_15, q_rt_15, q_oa_16, q_rt_16, q_oa_17, q_rt_17, q_oa_18, q_rt_18, q_ar_0, q_ar_1, q_ar_2, asI_i, q_ret, q_bind, q_bindn, q_map, q_mapn, q_evT, q_own, startR, List.getElem?_cons_succ, List.getElem?_cons_zero, List.set_cons_succ, List.set_cons_zero, List.map_cons, List.map_nil, List.replicate, List.length_cons, List.length_nil, List.append_eq, List.nil_append, List.cons_append, Bool.and_true, Bool.true_and, Bool.and_false, Bool.false_and, Bool.not_true, Bool.not_false, if_true, if_false, reduceCtorEq, Nat.reduceSub, Nat.reduceAdd, Nat.reduceLeDiff, Bool.false_eq_true, Bool.or_false, Bool.false_or, ite_true, ite_false, lenOk_0, lenOk_1, lenOk_2, lenOk_3, lenOk_4, lenOk_5, lenOk_6, lenOk_7, lenOk_8, i_add, i_sub, i_neg, i_asI, N_int, i_inti, i_intb, decide_true, decide_false, L_0, L_1, L_2]
  rw [L_conj]
end K83

set_option Elab.async false
set_option linter.all false
set_option maxRecDepth 100000
set_option maxHeartbeats 4000000
namespace K83
open PySem L2 PV Qu
variable {d : Nat}
theorem law_sign_is [NSq d] {x : Q d} {k : Nat} (hd : d < 64) (hx : Sz k x) (h : k ≤ 8000) : f__law_sign [.int (d : Int), L x] = some (false, .int (sgn x)) := by
  have h6 : ((d : Int)).natAbs < 2 ^ 6 := by omega
  have e := sgn_int x
  have b0 : ∀ k : Bool, mulOk 2 (if k = true then 1 else 0) = true := fun k => by cases k <;> decide
  have b1 : ∀ k l : Bool, mulOk (1 - 2 * if k = true then 1 else 0) (1 - 2 * if l = true then 1 else 0) = true := fun k l => by cases k <;> cases l <;> decide
  unfold f__law_sign evDef ir__law_sign
  simp only [q_wipeR_1, q_wipeR_2, q_asg_1, q_asg_2, q_asg_3, q_asg_4, q_asg_5, q_asg_6, q_asg_7, q_asgR_1, q_ownedArg_1, q_ownedArgs_1, q_ownedArgs_2, q_itemsOf_1, q_itemsOf_2, q_evE_1, q_evE_2, q_evE_3, q_evE_4, q_evE_5, q_evE_6, q_evE_7, q_evE_8, q_evE_9, q_evE_10, q_evE_11, q_evE_12, q_evE_13, q_evE_14, q_evE_15, q_evE_16, q_evE_17, q_evE_18, q_evE_19, q_evE_20, q_evEs_1, q_evEs_2, q_evP_1, q_evP_2, q_evC_1, q_evC_2, q_evI_1, q_evI_2, q_evRet_1, q_evS_1, q_evS_2, q_evS_3, q_evS_4, q_evS_5, q_evS_6, q_evS_7, q_evS_8, q_evS_9, q_evS_10, q_evS_11, q_evS_12, q_evS_13, q_evS_14, q_evS_15, q_evS_16, q_evSs_1, q_evSs_2, q_oa_0, q_rt_0, q_oa_1, q_rt_1, q_oa_2, q_rt_2, q_oa_3, q_rt_3, q_oa_4, q_rt_4, q_oa_5, q_rt_5, q_oa_6, q_rt_6, q_oa_7, q_rt_7, q_oa_8, q_rt_8, q_oa_9, q_rt_9, q_oa_10, q_rt_10, q_oa_11, q_rt_11, q_oa_12, q_rt_12, q_oa_13, q_rt_13, q_oa_14, q_rt_14, q_oa_15, q_rt_15, q_oa_16, q_rt_16, q_oa_17, q_rt_17, q_oa_18, q_rt_18, q_ar_0, q_ar_1, q_ar_2, asI_i, q_ret, q_bind, q_bindn, q_map, q_mapn, q_evT, q_own, startR, List.getElem?_cons_succ, List.getElem?_cons_zero, List.set_cons_succ, List.set_cons_zero, List.map_cons, List.map_nil, List.replicate, List.length_cons, List.length_nil, List.append_eq, List.nil_append, List.cons_append, Bool.and_true, Bool.true_and, Bool.and_false, Bool.false_and, Bool.not_true, Bool.not_false, if_true, if_false, reduceCtorEq, Nat.reduceSub, Nat.reduceAdd, Nat.reduceLeDiff, Bool.false_eq_true, Bool.or_false, Bool.false_or, ite_true, ite_false, lenOk_0, lenOk_1, lenOk_2, lenOk_3, lenOk_4, lenOk_5, lenOk_6, lenOk_7, lenOk_8, i_add, i_sub, i_neg, i_asI, N_int, i_inti, i_intb, decide_true, decide_false, L_asg, i_ge, i_gt, i_le, i_lt]
  by_cases c1 : 0 ≤ x.p ∧ 0 ≤ x.q
  · rw [if_pos c1] at e
    simp only [decide_eq_true c1.1, decide_eq_true c1.2, q_wipeR_1, q_wipeR_2, q_asg_1, q_asg_2, q_asg_3, q_asg_4, q_asg_5, q_asg_6, q_asg_7, q_asgR_1, q_ownedArg_1, q_ownedArgs_1, q_ownedArgs_2, q_itemsOf_1, q_itemsOf_2, q_evE_1, q_evE_2, q_evE_3, q_evE_4, q_evE_5, q_evE_6, q_evE_7, q_evE_8, q_evE_9, q_evE_10, q_evE_11, q_evE_12, q_evE_13, q_evE_14, q_evE_15, q_evE_16, q_evE_17, q_evE_18, q_evE_19, q_evE_20, q_evEs_1, q_evEs_2, q_evP_1, q_evP_2, q_evC_1, q_evC_2, q_evI_1, q_evI_2, q_evRet_1, q_evS_1, q_evS_2, q_evS_3, q_evS_4, q_evS_5, q_evS_6, q_evS_7, q_evS_8, q_evS_9, q_evS_10, q_evS_11, q_evS_12, q_evS_13, q_evS_14, q_evS_15, q_evS_16, q_evSs_1, q_evSs_2, q_oa_0, q_rt_0, q_oa_1, q_rt_1, q_oa_2, q_rt_2, q_oa_3, q_rt_3, q_oa_4, q_rt_4, q_oa_5, q_rt_5, q_oa_6, q_rt_6, q_oa_7, q_rt_7, q_oa_8, q_rt_8, q_oa_9, q_rt_9, q_oa_10, q_rt_10, q_oa_11, q_rt_11, q_oa_12, q_rt_12, q_oa_13, q_rt_13, q_oa_14, q_rt_14, q_oa_15, q_rt_15, q_oa_16, q_rt_16, q_oa_17, q_rt_17, q_oa_18, q_rt_18, q_ar_0, q_ar_1, q_ar_2, asI_i, q_ret, q_bind, q_bindn, q_map, q_mapn, q_evT, q_own, startR, List.getElem?_cons_succ, List.getElem?_cons_zero, List.set_cons_succ, List.set_cons_zero, List.map_cons, List.map_nil, List.replicate, List.length_cons, List.length_nil, List.append_eq, List.nil_append, List.cons_append, Bool.and_true, Bool.true_and, Bool.and_false, Bool.false_and, Bool.not_true, Bool.not_false, if_true, if_false, reduceCtorEq, Nat.reduceSub, Nat.reduceAdd, Nat.reduceLeDiff, Bool.false_eq_true, Bool.or_false, Bool.false_or, ite_true, ite_false, lenOk_0, lenOk_1, lenOk_2, lenOk_3, lenOk_4, lenOk_5, lenOk_6, lenOk_7, lenOk_8, i_add, i_sub, i_neg, i_asI, N_int, i_inti, i_intb, decide_true, decide_false, i_gt]
    rw [e]
    by_cases c : 0 < x.p + x.q
    · simp only [decide_eq_true c, if_pos c, if_true]
    · simp only [decide_eq_false c, if_neg c, Bool.false_eq_true, if_false]
  · rw [if_neg c1] at e
    have hb : (decide (0 ≤ x.p) && decide (0 ≤ x.q)) = false := by
      rw [Bool.and_eq_false_iff, decide_eq_false_iff_not, decide_eq_false_iff_not]
      omega
    by_cases c2 : x.p ≤ 0 ∧ x.q ≤ 0
    · rw [if_pos c2] at e
      rw [e]
      by_cases z : 0 ≤ x.p
      · have z2 : ¬ 0 ≤ x.q := fun y => c1 ⟨z, y⟩
        simp only [decide_eq_true z, decide_eq_false z2, decide_eq_true c2.1, decide_eq_true c2.2, q_wipeR_1, q_wipeR_2, q_asg_1, q_asg_2, q_asg_3, q_asg_4, q_asg_5, q_asg_6, q_asg_7, q_asgR_1, q_ownedArg_1, q_ownedArgs_1, q_ownedArgs_2, q_itemsOf_1, q_itemsOf_2, q_evE_1, q_evE_2, q_evE_3, q_evE_4, q_evE_5, q_evE_6, q_evE_7, q_evE_8, q_evE_9, q_evE_10, q_evE_11, q_evE_12, q_evE_13, q_evE_14, q_evE_15, q_evE_16, q_evE_17, q_evE_18, q_evE_19, q_evE_20, q_evEs_1, q_evEs_2, q_evP_1, q_evP_2, q_evC_1, q_evC_2, q_evI_1, q_evI_2, q_evRet_1, q_evS_1, q_evS_2, q_evS_3, q_evS_4, q_evS_5, q_evS_6, q_evS_7, q_evS_8, q_evS_9, q_evS_10, q_evS_11, q_evS_12, q_evS_13, q_evS_14, q_evS_15, q_evS_16, q_evSs_1, q_evSs_2, q_oa_0, q_rt_0, q_oa_1, q_rt_1, q_oa_2, q_rt_2, q_oa_3, q_rt_3, q_oa_4, q_rt_4, q_oa_5, q_rt_5, q_oa_6, q_rt_6, q_oa_7, q_rt_7, q_oa_8, q_rt_8, q_oa_9, q_rt_9, q_oa_10, q_rt_10, q_oa_11, q_rt_11, q_oa_12, q_rt_12, q_oa_13, q_rt_13, q_oa_14, q_rt_14, q_oa_15, q_rt_15, q_oa_16, q_rt_16, q_oa_17, q_rt_17, q_oa_18, q_rt_18, q_ar_0, q_ar_1, q_ar_2, asI_i, q_ret, q_bind, q_bindn, q_map, q_mapn, q_evT, q_own, startR, List.getElem?_cons_succ, List.getElem?_cons_zero, List.set_cons_succ, List.set_cons_zero, List.map_cons, List.map_nil, List.replicate, List.length_cons, List.length_nil, List.append_eq, List.nil_append, List.cons_append, Bool.and_true, Bool.true_and, Bool.and_false, Bool.false_and, Bool.not_true, Bool.not_false, if_true, if_false, reduceCtorEq, Nat.reduceSub, Nat.reduceAdd, Nat.reduceLeDiff, Bool.false_eq_true, Bool.or_false, Bool.false_or, ite_true, ite_false, lenOk_0, lenOk_1, lenOk_2, lenOk_3, lenOk_4, lenOk_5, lenOk_6, lenOk_7, lenOk_8, i_add, i_sub, i_neg, i_asI, N_int, i_inti, i_intb, decide_true, decide_false, i_ge, i_le]
      · simp only [decide_eq_false z, decide_eq_true c2.1, decide_eq_true c2.2, q_wipeR_1, q_wipeR_2, q_asg_1, q_asg_2, q_asg_3, q_asg_4, q_asg_5, q_asg_6, q_asg_7, q_asgR_1, q_ownedArg_1, q_ownedArgs_1, q_ownedArgs_2, q_itemsOf_1, q_itemsOf_2, q_evE_1, q_evE_2, q_evE_3, q_evE_4, q_evE_5, q_evE_6, q_evE_7, q_evE_8, q_evE_9, q_evE_10, q_evE_11, q_evE_12, q_evE_13, q_evE_14, q_evE_15, q_evE_16, q_evE_17, q_evE_18, q_evE_19, q_evE_20, q_evEs_1, q_evEs_2, q_evP_1, q_evP_2, q_evC_1, q_evC_2, q_evI_1, q_evI_2, q_evRet_1, q_evS_1, q_evS_2, q_evS_3, q_evS_4, q_evS_5, q_evS_6, q_evS_7, q_evS_8, q_evS_9, q_evS_10, q_evS_11, q_evS_12, q_evS_13, q_evS_14, q_evS_15, q_evS_16, q_evSs_1, q_evSs_2, q_oa_0, q_rt_0, q_oa_1, q_rt_1, q_oa_2, q_rt_2, q_oa_3, q_rt_3, q_oa_4, q_rt_4, q_oa_5, q_rt_5, q_oa_6, q_rt_6, q_oa_7, q_rt_7, q_oa_8, q_rt_8, q_oa_9, q_rt_9, q_oa_10, q_rt_10, q_oa_11, q_rt_11, q_oa_12, q_rt_12, q_oa_13, q_rt_13, q_oa_14, q_rt_14, q_oa_15, q_rt_15, q_oa_16, q_rt_16, q_oa_17, q_rt_17, q_oa_18, q_rt_18, q_ar_0, q_ar_1, q_ar_2, asI_i, q_ret, q_bind, q_bindn, q_map, q_mapn, q_evT, q_own, startR, List.getElem?_cons_succ, List.getElem?_cons_zero, List.set_cons_succ, List.set_cons_zero, List.map_cons, List.map_nil, List.replicate, List.length_cons, List.length_nil, List.append_eq, List.nil_append, List.cons_append, Bool.and_true, Bool.true_and, Bool.and_false, Bool.false_and, Bool.not_true, Bool.not_false, if_true, if_false, reduceCtorEq, Nat.reduceSub, Nat.reduceAdd, Nat.reduceLeDiff, Bool.false_eq_true, Bool.or_false, Bool.false_or, ite_true, ite_false, lenOk_0, lenOk_1, lenOk_2, lenOk_3, lenOk_4, lenOk_5, lenOk_6, lenOk_7, lenOk_8, i_add, i_sub, i_neg, i_asI, N_int, i_inti, i_intb, decide_true, decide_false, i_ge, i_le]
    · rw [if_neg c2] at e
      rw [e]
      have fin : ∀ (k l : Bool), ((1 : Int) - 2 * (if k = true then 1 else 0)) * (1 - 2 * (if l = true then 1 else 0)) = (if k = true then -1 else 1) * (if l = true then -1 else 1) := fun k l => by cases k <;> cases l <;> rfl
      have f2 := fin (decide (x.p < 0)) (decide (x.p * x.p - (d : Int) * x.q * x.q < 0))
      simp only [decide_eq_true_eq] at f2
      have mpp := mul_of hx.p hx.p (by omega)
      have mq := mul_of h6 hx.q (by omega)
      have mqq := mul_of (nat_mul_lt h6 hx.q) hx.q (by omega)
      by_cases z : 0 ≤ x.p
      · have z2 : ¬ 0 ≤ x.q := fun y => c1 ⟨z, y⟩
        have z3 : ¬ x.p ≤ 0 := fun y => c2 ⟨y, by omega⟩
        simp only [decide_eq_true z, decide_eq_false z2, decide_eq_false z3, q_wipeR_1, q_wipeR_2, q_asg_1, q_asg_2, q_asg_3, q_asg_4, q_asg_5, q_asg_6, q_asg_7, q_asgR_1, q_ownedArg_1, q_ownedArgs_1, q_ownedArgs_2, q_itemsOf_1, q_itemsOf_2, q_evE_1, q_evE_2, q_evE_3, q_evE_4, q_evE_5, q_evE_6, q_evE_7, q_evE_8, q_evE_9, q_evE_10, q_evE_11, q_evE_12, q_evE_13, q_evE_14, q_evE_15, q_evE_16, q_evE_17, q_evE_18, q_evE_19, q_evE_20, q_evEs_1, q_evEs_2, q_evP_1, q_evP_2, q_evC_1, q_evC_2, q_evI_1, q_evI_2, q_evRet_1, q_evS_1, q_evS_2, q_evS_3, q_evS_4, q_evS_5, q_evS_6, q_evS_7, q_evS_8, q_evS_9, q_evS_10, q_evS_11, q_evS_12, q_evS_13, q_evS_14, q_evS_15, q_evS_16, q_evSs_1, q_evSs_2, q_oa_0, q_rt_0, q_oa_1, q_rt_1, q_oa_2, q_rt_2, q_oa_3, q_rt_3, q_oa_4, q_rt_4, q_oa_5, q_rt_5, q_oa_6, q_rt_6, q_oa_7, q_rt_7, q_oa_8, q_rt_8, q_oa_9, q_rt_9, q_oa_10, q_rt_10, q_oa_11, q_rt_11, q_oa_12, q_rt_12, q_oa_13, q_rt_13, q_oa_14, q_rt_14, q_oa_15, q_rt_15, q_oa_16, q_rt_16, q_oa_17, q_rt_17, q_oa_18, q_rt_18, q_ar_0, q_ar_1, q_ar_2, asI_i, q_ret, q_bind, q_bindn, q_map, q_mapn, q_evT, q_own, startR, List.getElem?_cons_succ, List.getElem?_cons_zero, List.set_cons_succ, List.set_cons_zero, List.map_cons, List.map_nil, List.replicate, List.length_cons, List.length_nil, List.append_eq, List.nil_append, List.cons_append, Bool.and_true, Bool.true_and, Bool.and_false, Bool.false_and, Bool.not_true, Bool.not_false, if_true, if_false, reduceCtorEq, Nat.reduceSub, Nat.reduceAdd, Nat.reduceLeDiff, Bool.false_eq_true, Bool.or_false, Bool.false_or, ite_true, ite_false, lenOk_0, lenOk_1, lenOk_2, lenOk_3, lenOk_4, lenOk_5, lenOk_6, lenOk_7, lenOk_8, i_add, i_sub, i_neg, i_asI, N_int, i_inti, i_intb, decide_true, decide_false, i_ge, i_le, i_lt, i_mul, mpp, mq, mqq, b0, b1]
        rw [fin]
        simp only [decide_eq_true_eq]
      · have z3 : x.p ≤ 0 := by omega
        have z4 : ¬ x.q ≤ 0 := fun y => c2 ⟨z3, y⟩
        simp only [decide_eq_false z, decide_eq_true z3, decide_eq_false z4, q_wipeR_1, q_wipeR_2, q_asg_1, q_asg_2, q_asg_3, q_asg_4, q_asg_5, q_asg_6, q_asg_7, q_asgR_1, q_ownedArg_1, q_ownedArgs_1, q_ownedArgs_2, q_itemsOf_1, q_itemsOf_2, q_evE_1, q_evE_2, q_evE_3, q_evE_4, q_evE_5, q_evE_6, q_evE_7, q_evE_8, q_evE_9, q_evE_10, q_evE_11, q_evE_12, q_evE_13, q_evE_14, q_evE_15, q_evE_16, q_evE_17, q_evE_18, q_evE_19, q_evE_20, q_evEs_1, q_evEs_2, q_evP_1, q_evP_2, q_evC_1, q_evC_2, q_evI_1, q_evI_2, q_evRet_1, q_evS_1, q_evS_2, q_evS_3, q_evS_4, q_evS_5, q_evS_6, q_evS_7, q_evS_8, q_evS_9, q_evS_10, q_evS_11, q_evS_12, q_evS_13, q_evS_14, q_evS_15, q_evS_16, q_evSs_1, q_evSs_2, q_oa_0, q_rt_0, q_oa_1, q_rt_1, q_oa_2, q_rt_2, q_oa_3, q_rt_3, q_oa_4, q_rt_4, q_oa_5, q_rt_5, q_oa_6, q_rt_6, q_oa_7, q_rt_7, q_oa_8, q_rt_8, q_oa_9, q_rt_9, q_oa_10, q_rt_10, q_oa_11, q_rt_11, q_oa_12, q_rt_12, q_oa_13, q_rt_13, q_oa_14, q_rt_14, q_oa_15, q_rt_15, q_oa_16, q_rt_16, q_oa_17, q_rt_17, q_oa_18, q_rt_18, q_ar_0, q_ar_1, q_ar_2, asI_i, q_ret, q_bind, q_bindn, q_map, q_mapn, q_evT, q_own, startR, List.getElem?_cons_succ, List.getElem?_cons_zero, List.set_cons_succ, List.set_cons_zero, List.map_cons, List.map_nil, List.replicate, List.length_cons, List.length_nil, List.append_eq, List.nil_append, List.cons_append, Bool.and_true, Bool.true_and, Bool.and_false, Bool.false_and, Bool.not_true, Bool.not_false, if_true, if_false, reduceCtorEq, Nat.reduceSub, Nat.reduceAdd, Nat.reduceLeDiff, Bool.false_eq_true, Bool.or_false, Bool.false_or, ite_true, ite_false, lenOk_0, lenOk_1, lenOk_2, lenOk_3, lenOk_4, lenOk_5, lenOk_6, lenOk_7, lenOk_8, i_add, i_sub, i_neg, i_asI, N_int, i_inti, i_intb, decide_true, decide_false, i_ge, i_le, i_lt, i_mul, mpp, mq, mqq, b0, b1]
        rw [fin]
        simp only [decide_eq_true_eq]
/-- a cell of the draws -/
theorem cell_is {l : List Nat} {k : Nat} (h : k < l.length) : f__law_cell [.list (l.map N), .int (k : Int)] = some (false, .int (l[k] : Nat)) := by
  have h1 : evBI .len [.list (l.map N)] = some (false, .int (l.length : Nat)) := by
    show some (false, PyData.int (l.map N).length) = _
    rw [List.length_map]
  have h2 : evIx (.list (l.map N)) (.int (k : Int)) = some (false, .int (l[k] : Nat)) := by
    show (L2.atI (l.map N) (k : Int)).map _ = _
    rw [atI_N, List.getElem?_map, List.getElem?_eq_getElem h]
    rfl
  have h3 : (k : Int) < (l.length : Nat) := by omega
  unfold f__law_cell evDef ir__law_cell
  simp only [q_wipeR_1, q_wipeR_2, q_asg_1, q_asg_2, q_asg_3, q_asg_4, q_asg_5, q_asg_6, q_asg_7, q_asgR_1, q_ownedArg_1, q_ownedArgs_1, q_ownedArgs_2, q_itemsOf_1, q_itemsOf_2, q_evE_1, q_evE_2, q_evE_3, q_evE_4, q_evE_5, q_evE_6, q_evE_7, q_evE_8, q_evE_9, q_evE_10, q_evE_11, q_evE_12, q_evE_13, q_evE_14, q_evE_15, q_evE_16, q_evE_17, q_evE_18, q_evE_19, q_evE_20, q_evEs_1, q_evEs_2, q_evP_1, q_evP_2, q_evC_1, q_evC_2, q_evI_1, q_evI_2, q_evRet_1, q_evS_1, q_evS_2, q_evS_3, q_evS_4, q_evS_5, q_evS_6, q_evS_7, q_evS_8, q_evS_9, q_evS_10, q_evS_11, q_evS_12, q_evS_13, q_evS_14, q_evS_15, q_evS_16, q_evSs_1, q_evSs_2, q_oa_0, q_rt_0, q_oa_1, q_rt_1, q_oa_2, q_rt_2, q_oa_3, q_rt_3, q_oa_4, q_rt_4, q_oa_5, q_rt_5, q_oa_6, q_rt_6, q_oa_7, q_rt_7, q_oa_8, q_rt_8, q_oa_9, q_rt_9, q_oa_10, q_rt_10, q_oa_11, q_rt_11, q_oa_12, q_rt_12, q_oa_13, q_rt_13, q_oa_14, q_rt_14, q_oa_15, q_rt_15, q_oa_16, q_rt_16, q_oa_17, q_rt_17, q_oa_18, q_rt_18, q_ar_0, q_ar_1, q_ar_2, asI_i, q_ret, q_bind, q_bindn, q_map, q_mapn, q_evT, q_own, startR, List.getElem?_cons_succ, List.getElem?_cons_zero, List.set_cons_succ, List.set_cons_zero, List.map_cons, List.map_nil, List.replicate, List.length_cons, List.length_nil, List.append_eq, List.nil_append, List.cons_append, Bool.and_true, Bool.true_and, Bool.and_false, Bool.false_and, Bool.not_true, Bool.not_false, if_true, if_false, reduceCtorEq, Nat.reduceSub, Nat.reduceAdd, Nat.reduceLeDiff, Bool.false_eq_true, Bool.or_false, Bool.false_or, ite_true, ite_false, lenOk_0, lenOk_1, lenOk_2, lenOk_3, lenOk_4, lenOk_5, lenOk_6, lenOk_7, lenOk_8, i_add, i_sub, i_neg, i_asI, N_int, i_inti, i_intb, decide_true, decide_false, h1, i_lt, decide_eq_true h3, h2]
def ROOTS : List Nat := [2, 3, 5, 6, 7, 8, 10, 11, 13, 14, 15, 17, 19, 21, 23, 29, 31, 37, 41, 46, 50]
theorem root_is (c : Nat) : ∃ d, d ∈ ROOTS ∧ f__law_root [.int (c : Int)] = some (false, .int (d : Nat)) := by
  have hm : c % 21 < ROOTS.length := Nat.mod_lt _ (by decide)
  refine ⟨ROOTS[c % 21], List.getElem_mem hm, ?_⟩
  have h1 : evIx (.list (ROOTS.map N)) (.int ((c : Int) % 21)) = some (false, .int (ROOTS[c % 21] : Nat)) := by
    show (L2.atI (ROOTS.map N) ((c : Int) % 21)).map _ = _
    have e : (c : Int) % 21 = ((c % 21 : Nat) : Int) := by omega
    rw [e, atI_N, List.getElem?_map, List.getElem?_eq_getElem hm]
    rfl
  have h1 : evIx (.list [.int 2, .int 3, .int 5, .int 6, .int 7, .int 8, .int 10, .int 11, .int 13, .int 14, .int 15, .int 17, .int 19, .int 21, .int 23, .int 29, .int 31, .int 37, .int 41, .int 46, .int 50]) (.int ((c : Int) % 21)) = some (false, .int (ROOTS[c % 21] : Nat)) := h1
  unfold f__law_root evDef ir__law_root
  have hl : lenOk 21 = true := rfl
  simp only [q_wipeR_1, q_wipeR_2, q_asg_1, q_asg_2, q_asg_3, q_asg_4, q_asg_5, q_asg_6, q_asg_7, q_asgR_1, q_ownedArg_1, q_ownedArgs_1, q_ownedArgs_2, q_itemsOf_1, q_itemsOf_2, q_evE_1, q_evE_2, q_evE_3, q_evE_4, q_evE_5, q_evE_6, q_evE_7, q_evE_8, q_evE_9, q_evE_10, q_evE_11, q_evE_12, q_evE_13, q_evE_14, q_evE_15, q_evE_16, q_evE_17, q_evE_18, q_evE_19, q_evE_20, q_evEs_1, q_evEs_2, q_evP_1, q_evP_2, q_evC_1, q_evC_2, q_evI_1, q_evI_2, q_evRet_1, q_evS_1, q_evS_2, q_evS_3, q_evS_4, q_evS_5, q_evS_6, q_evS_7, q_evS_8, q_evS_9, q_evS_10, q_evS_11, q_evS_12, q_evS_13, q_evS_14, q_evS_15, q_evS_16, q_evSs_1, q_evSs_2, q_oa_0, q_rt_0, q_oa_1, q_rt_1, q_oa_2, q_rt_2, q_oa_3, q_rt_3, q_oa_4, q_rt_4, q_oa_5, q_rt_5, q_oa_6, q_rt_6, q_oa_7, q_rt_7, q_oa_8, q_rt_8, q_oa_9, q_rt_9, q_oa_10, q_rt_10, q_oa_11, q_rt_11, q_oa_12, q_rt_12, q_oa_13, q_rt_13, q_oa_14, q_rt_14, q_oa_15, q_rt_15, q_oa_16, q_rt_16, q_oa_17, q_rt_17, q_oa_18, q_rt_18, q_ar_0, q_ar_1, q_ar_2, asI_i, q_ret, q_bind, q_bindn, q_map, q_mapn, q_evT, q_own, startR, List.getElem?_cons_succ, List.getElem?_cons_zero, List.set_cons_succ, List.set_cons_zero, List.map_cons, List.map_nil, List.replicate, List.length_cons, List.length_nil, List.append_eq, List.nil_append, List.cons_append, Bool.and_true, Bool.true_and, Bool.and_false, Bool.false_and, Bool.not_true, Bool.not_false, if_true, if_false, reduceCtorEq, Nat.reduceSub, Nat.reduceAdd, Nat.reduceLeDiff, Bool.false_eq_true, Bool.or_false, Bool.false_or, ite_true, ite_false, lenOk_0, lenOk_1, lenOk_2, lenOk_3, lenOk_4, lenOk_5, lenOk_6, lenOk_7, lenOk_8, i_add, i_sub, i_neg, i_asI, N_int, i_inti, i_intb, decide_true, decide_false, i_mod (show (0 : Int) < 21 by decide), hl, h1]
/-- a drawn length -/
theorem above_is [NSq d] {l : List Nat} {k : Nat} (hd : d < 64) (h : k + 2 < l.length) : ∃ x : Q d, 0 < x ∧ Sz 4 x ∧ Dn 12 96 x ∧ f__law_above [.list (l.map N), .int (k : Int), .int (d : Int)] = some (false, L x) := by
  have c0 := cell_is (l := l) (k := k) (by omega)
  have c1 := cell_is (l := l) (k := k + 1) (by omega)
  have c2 := cell_is (l := l) (k := k + 2) (by omega)
  have e1 : ((k + 1 : Nat) : Int) = (k : Int) + 1 := by omega
  have e2 : ((k + 2 : Nat) : Int) = (k : Int) + 2 := by omega
  rw [e1] at c1
  rw [e2] at c2
  generalize l[k] = a at *
  generalize l[k + 1] = b at *
  generalize l[k + 2] = c at *
  have m3 : divOk 3 = true := by decide
  have m5 : divOk 5 = true := by decide
  have f3 : (b : Int).fdiv 3 = (b : Int) / 3 := Int.fdiv_eq_ediv_of_nonneg _ (by decide)
  have f5 : (c : Int).fdiv 5 = (c : Int) / 5 := Int.fdiv_eq_ediv_of_nonneg _ (by decide)
  have hp : ((a : Int) % 17 - 8).natAbs < 2 ^ 4 := by omega
  have hq : ((b : Int) / 3 % 9 - 4).natAbs < 2 ^ 4 := by omega
  have hs : (1 + (c : Int) / 5 % 4).natAbs < 2 ^ 4 := by omega
  have h0 : (1 + (c : Int) / 5 % 4) ≠ 0 := by omega
  have hL := length_is (d := d) h0 hp hq hs (by omega)
  have hz := Sz.of (d := d) h0 hp hq hs
  have hS := law_sign_is hd hz (by omega)
  have hD : Dn 12 96 (mkQ d ((a : Int) % 17 - 8) ((b : Int) / 3 % 9 - 4) (1 + (c : Int) / 5 % 4)) := by
    have e : (1 : Int) + (c : Int) / 5 % 4 = ((1 + c / 5 % 4 : Nat) : Int) := by omega
    rw [e]
    have p8 : ((a : Int) % 17 - 8).natAbs ≤ 8 := by omega
    have q8 : ((b : Int) / 3 % 9 - 4).natAbs ≤ 8 := by omega
    have hs : 1 + c / 5 % 4 = 1 ∨ 1 + c / 5 % 4 = 2 ∨ 1 + c / 5 % 4 = 3 ∨ 1 + c / 5 % 4 = 4 := by omega
    generalize 1 + c / 5 % 4 = s at *
    rcases hs with rfl | rfl | rfl | rfl
    · exact dn_mk (k := 12) (by decide) p8 q8
    · exact (dn_mk (k := 6) (by decide) p8 q8).mono (by decide)
    · exact (dn_mk (k := 4) (by decide) p8 q8).mono (by decide)
    · exact (dn_mk (k := 3) (by decide) p8 q8).mono (by decide)
  have run : ∀ (t : Int) (y : Q d), sgn (mkQ d ((a : Int) % 17 - 8) ((b : Int) / 3 % 9 - 4) (1 + (c : Int) / 5 % 4)) = t → (t = 0 ∨ t = 1 ∨ t = -1) → y = (if t = 0 then 1 else if t = 1 then mkQ d ((a : Int) % 17 - 8) ((b : Int) / 3 % 9 - 4) (1 + (c : Int) / 5 % 4) else -mkQ d ((a : Int) % 17 - 8) ((b : Int) / 3 % 9 - 4) (1 + (c : Int) / 5 % 4)) →
      f__law_above [.list (l.map N), .int (k : Int), .int (d : Int)] = some (false, L y) := by
    intro t y ht hc hy
    rw [ht] at hS
    generalize mkQ d ((a : Int) % 17 - 8) ((b : Int) / 3 % 9 - 4) (1 + (c : Int) / 5 % 4) = x at *
    have w1 : mulOk x.p t = true := mulOk_b hz.p (l := 2) (by rcases hc with h | h | h <;> rw [h] <;> decide) (by omega)
    have w2 : mulOk x.q t = true := mulOk_b hz.q (l := 2) (by rcases hc with h | h | h <;> rw [h] <;> decide) (by omega)
    unfold f__law_above evDef ir__law_above
    simp only [q_wipeR_1, q_wipeR_2, q_asg_1, q_asg_2, q_asg_3, q_asg_4, q_asg_5, q_asg_6, q_asg_7, q_asgR_1, q_ownedArg_1, q_ownedArgs_1, q_ownedArgs_2, q_itemsOf_1, q_itemsOf_2, q_evE_1, q_evE_2, q_evE_3, q_evE_4, q_evE_5, q_evE_6, q_evE_7, q_evE_8, q_evE_9, q_evE_10, q_evE_11, q_evE_12, q_evE_13, q_evE_14, q_evE_15, q_evE_16, q_evE_17, q_evE_18, q_evE_19, q_evE_20, q_evEs_1, q_evEs_2, q_evP_1, q_evP_2, q_evC_1, q_evC_2, q_evI_1, q_evI_2, q_evRet_1, q_evS_1, q_evS_2, q_evS_3, q_evS_4, q_evS_5, q_evS_6, q_evS_7, q_evS_8, q_evS_9, q_evS_10, q_evS_11, q_evS_12, q_evS_13, q_evS_14, q_evS_15, q_evS_16, q_evSs_1, q_evSs_2, q_oa_0, q_rt_0, q_oa_1, q_rt_1, q_oa_2, q_rt_2, q_oa_3, q_rt_3, q_oa_4, q_rt_4, q_oa_5, q_rt_5, q_oa_6, q_rt_6, q_oa_7, q_rt_7, q_oa_8, q_rt_8, q_oa_9, q_rt_9, q_oa_10, q_rt_10, q_oa_11, q_rt_11, q_oa_12, q_rt_12, q_oa_13, q_rt_13, q_oa_14, q_rt_14, q_oa_15, q_rt_15, q_oa_16, q_rt_16, q_oa_17, q_rt_17, q_oa_18, q_rt_18, q_ar_0, q_ar_1, q_ar_2, asI_i, q_ret, q_bind, q_bindn, q_map, q_mapn, q_evT, q_own, startR, List.getElem?_cons_succ, List.getElem?_cons_zero, List.set_cons_succ, List.set_cons_zero, List.map_cons, List.map_nil, List.replicate, List.length_cons, List.length_nil, List.append_eq, List.nil_append, List.cons_append, Bool.and_true, Bool.true_and, Bool.and_false, Bool.false_and, Bool.not_true, Bool.not_false, if_true, if_false, reduceCtorEq, Nat.reduceSub, Nat.reduceAdd, Nat.reduceLeDiff, Bool.false_eq_true, Bool.or_false, Bool.false_or, ite_true, ite_false, lenOk_0, lenOk_1, lenOk_2, lenOk_3, lenOk_4, lenOk_5, lenOk_6, lenOk_7, lenOk_8, i_add, i_sub, i_neg, i_asI, N_int, i_inti, i_intb, decide_true, decide_false, c0, c1, c2, i_mod (show (0 : Int) < 17 by decide), i_mod (show (0 : Int) < 9 by decide), i_mod (show (0 : Int) < 4 by decide), i_fdiv, m3, m5, f3, f5, hL, hS, i_eq]
    rcases hc with rfl | rfl | rfl
    · rw [if_pos rfl] at hy
      simp only [decide_true, q_wipeR_1, q_wipeR_2, q_asg_1, q_asg_2, q_asg_3, q_asg_4, q_asg_5, q_asg_6, q_asg_7, q_asgR_1, q_ownedArg_1, q_ownedArgs_1, q_ownedArgs_2, q_itemsOf_1, q_itemsOf_2, q_evE_1, q_evE_2, q_evE_3, q_evE_4, q_evE_5, q_evE_6, q_evE_7, q_evE_8, q_evE_9, q_evE_10, q_evE_11, q_evE_12, q_evE_13, q_evE_14, q_evE_15, q_evE_16, q_evE_17, q_evE_18, q_evE_19, q_evE_20, q_evEs_1, q_evEs_2, q_evP_1, q_evP_2, q_evC_1, q_evC_2, q_evI_1, q_evI_2, q_evRet_1, q_evS_1, q_evS_2, q_evS_3, q_evS_4, q_evS_5, q_evS_6, q_evS_7, q_evS_8, q_evS_9, q_evS_10, q_evS_11, q_evS_12, q_evS_13, q_evS_14, q_evS_15, q_evS_16, q_evSs_1, q_evSs_2, q_oa_0, q_rt_0, q_oa_1, q_rt_1, q_oa_2, q_rt_2, q_oa_3, q_rt_3, q_oa_4, q_rt_4, q_oa_5, q_rt_5, q_oa_6, q_rt_6, q_oa_7, q_rt_7, q_oa_8, q_rt_8, q_oa_9, q_rt_9, q_oa_10, q_rt_10, q_oa_11, q_rt_11, q_oa_12, q_rt_12, q_oa_13, q_rt_13, q_oa_14, q_rt_14, q_oa_15, q_rt_15, q_oa_16, q_rt_16, q_oa_17, q_rt_17, q_oa_18, q_rt_18, q_ar_0, q_ar_1, q_ar_2, asI_i, q_ret, q_bind, q_bindn, q_map, q_mapn, q_evT, q_own, startR, List.getElem?_cons_succ, List.getElem?_cons_zero, List.set_cons_succ, List.set_cons_zero, List.map_cons, List.map_nil, List.replicate, List.length_cons, List.length_nil, List.append_eq, List.nil_append, List.cons_append, Bool.and_true, Bool.true_and, Bool.and_false, Bool.false_and, Bool.not_true, Bool.not_false, if_true, if_false, reduceCtorEq, Nat.reduceSub, Nat.reduceAdd, Nat.reduceLeDiff, Bool.false_eq_true, Bool.or_false, Bool.false_or, ite_true, ite_false, lenOk_0, lenOk_1, lenOk_2, lenOk_3, lenOk_4, lenOk_5, lenOk_6, lenOk_7, lenOk_8, i_add, i_sub, i_neg, i_asI, N_int, i_inti, i_intb, decide_true, decide_false]
      rw [L_int (d := d), hy]
      rfl
    · rw [if_neg (by decide), if_pos rfl] at hy
      have n0 : decide ((1 : Int) = 0) = false := rfl
      simp only [n0, q_wipeR_1, q_wipeR_2, q_asg_1, q_asg_2, q_asg_3, q_asg_4, q_asg_5, q_asg_6, q_asg_7, q_asgR_1, q_ownedArg_1, q_ownedArgs_1, q_ownedArgs_2, q_itemsOf_1, q_itemsOf_2, q_evE_1, q_evE_2, q_evE_3, q_evE_4, q_evE_5, q_evE_6, q_evE_7, q_evE_8, q_evE_9, q_evE_10, q_evE_11, q_evE_12, q_evE_13, q_evE_14, q_evE_15, q_evE_16, q_evE_17, q_evE_18, q_evE_19, q_evE_20, q_evEs_1, q_evEs_2, q_evP_1, q_evP_2, q_evC_1, q_evC_2, q_evI_1, q_evI_2, q_evRet_1, q_evS_1, q_evS_2, q_evS_3, q_evS_4, q_evS_5, q_evS_6, q_evS_7, q_evS_8, q_evS_9, q_evS_10, q_evS_11, q_evS_12, q_evS_13, q_evS_14, q_evS_15, q_evS_16, q_evSs_1, q_evSs_2, q_oa_0, q_rt_0, q_oa_1, q_rt_1, q_oa_2, q_rt_2, q_oa_3, q_rt_3, q_oa_4, q_rt_4, q_oa_5, q_rt_5, q_oa_6, q_rt_6, q_oa_7, q_rt_7, q_oa_8, q_rt_8, q_oa_9, q_rt_9, q_oa_10, q_rt_10, q_oa_11, q_rt_11, q_oa_12, q_rt_12, q_oa_13, q_rt_13, q_oa_14, q_rt_14, q_oa_15, q_rt_15, q_oa_16, q_rt_16, q_oa_17, q_rt_17, q_oa_18, q_rt_18, q_ar_0, q_ar_1, q_ar_2, asI_i, q_ret, q_bind, q_bindn, q_map, q_mapn, q_evT, q_own, startR, List.getElem?_cons_succ, List.getElem?_cons_zero, List.set_cons_succ, List.set_cons_zero, List.map_cons, List.map_nil, List.replicate, List.length_cons, List.length_nil, List.append_eq, List.nil_append, List.cons_append, Bool.and_true, Bool.true_and, Bool.and_false, Bool.false_and, Bool.not_true, Bool.not_false, if_true, if_false, reduceCtorEq, Nat.reduceSub, Nat.reduceAdd, Nat.reduceLeDiff, Bool.false_eq_true, Bool.or_false, Bool.false_or, ite_true, ite_false, lenOk_0, lenOk_1, lenOk_2, lenOk_3, lenOk_4, lenOk_5, lenOk_6, lenOk_7, lenOk_8, i_add, i_sub, i_neg, i_asI, N_int, i_inti, i_intb, decide_true, decide_false, L_0, L_1, L_2, i_mul, w1, w2, Int.mul_one]
      rw [hy, L_def]
    · rw [if_neg (by decide), if_neg (by decide)] at hy
      have n0 : decide ((-1 : Int) = 0) = false := rfl
      have n1 : ∀ z : Int, z * -1 = -z := fun z => by omega
      simp only [n0, q_wipeR_1, q_wipeR_2, q_asg_1, q_asg_2, q_asg_3, q_asg_4, q_asg_5, q_asg_6, q_asg_7, q_asgR_1, q_ownedArg_1, q_ownedArgs_1, q_ownedArgs_2, q_itemsOf_1, q_itemsOf_2, q_evE_1, q_evE_2, q_evE_3, q_evE_4, q_evE_5, q_evE_6, q_evE_7, q_evE_8, q_evE_9, q_evE_10, q_evE_11, q_evE_12, q_evE_13, q_evE_14, q_evE_15, q_evE_16, q_evE_17, q_evE_18, q_evE_19, q_evE_20, q_evEs_1, q_evEs_2, q_evP_1, q_evP_2, q_evC_1, q_evC_2, q_evI_1, q_evI_2, q_evRet_1, q_evS_1, q_evS_2, q_evS_3, q_evS_4, q_evS_5, q_evS_6, q_evS_7, q_evS_8, q_evS_9, q_evS_10, q_evS_11, q_evS_12, q_evS_13, q_evS_14, q_evS_15, q_evS_16, q_evSs_1, q_evSs_2, q_oa_0, q_rt_0, q_oa_1, q_rt_1, q_oa_2, q_rt_2, q_oa_3, q_rt_3, q_oa_4, q_rt_4, q_oa_5, q_rt_5, q_oa_6, q_rt_6, q_oa_7, q_rt_7, q_oa_8, q_rt_8, q_oa_9, q_rt_9, q_oa_10, q_rt_10, q_oa_11, q_rt_11, q_oa_12, q_rt_12, q_oa_13, q_rt_13, q_oa_14, q_rt_14, q_oa_15, q_rt_15, q_oa_16, q_rt_16, q_oa_17, q_rt_17, q_oa_18, q_rt_18, q_ar_0, q_ar_1, q_ar_2, asI_i, q_ret, q_bind, q_bindn, q_map, q_mapn, q_evT, q_own, startR, List.getElem?_cons_succ, List.getElem?_cons_zero, List.set_cons_succ, List.set_cons_zero, List.map_cons, List.map_nil, List.replicate, List.length_cons, List.length_nil, List.append_eq, List.nil_append, List.cons_append, Bool.and_true, Bool.true_and, Bool.and_false, Bool.false_and, Bool.not_true, Bool.not_false, if_true, if_false, reduceCtorEq, Nat.reduceSub, Nat.reduceAdd, Nat.reduceLeDiff, Bool.false_eq_true, Bool.or_false, Bool.false_or, ite_true, ite_false, lenOk_0, lenOk_1, lenOk_2, lenOk_3, lenOk_4, lenOk_5, lenOk_6, lenOk_7, lenOk_8, i_add, i_sub, i_neg, i_asI, N_int, i_inti, i_intb, decide_true, decide_false, L_0, L_1, L_2, i_mul, w1, w2, n1]
      rw [hy, L_negt]
  rcases sgn_cases (mkQ d ((a : Int) % 17 - 8) ((b : Int) / 3 % 9 - 4) (1 + (c : Int) / 5 % 4)) with ⟨h1, h2⟩ | ⟨h1, h2⟩ | ⟨h1, h2⟩
  · exact ⟨_, h1, hz, hD, run 1 _ h2 (by omega) (by rw [if_neg (by decide), if_pos rfl])⟩
  · refine ⟨1, by grind, ?_, ⟨12, 0, by show (1 : Rat) * _ = _; rw [Rat.one_mul]; rfl, by show (0 : Rat) * _ = _; rw [Rat.zero_mul]; rfl, by decide, by decide⟩, run 0 _ h2 (by omega) (by rw [if_pos rfl])⟩
    obtain ⟨r1, r2, r3⟩ := int_rep (d := d) 1
    have r1 : (1 : Q d).p = 1 := r1
    have r2 : (1 : Q d).q = 0 := r2
    have r3 : (1 : Q d).s = 1 := r3
    exact ⟨by rw [r1]; decide, by rw [r2]; decide, by rw [r3]; decide⟩
  · exact ⟨_, by grind, neg_sz hz, hD.neg, run (-1) _ h2 (by omega) (by rw [if_neg (by decide), if_neg (by decide)])⟩
/-- all drawn lengths at once -/
theorem aboves [NSq d] {l : List Nat} (hd : d < 64) : ∃ A : Nat → Q d, ∀ k, k + 2 < l.length → 0 < A k ∧ Sz 4 (A k) ∧ Dn 12 96 (A k) ∧ f__law_above [.list (l.map N), .int (k : Int), .int (d : Int)] = some (false, L (A k)) := by
  refine ⟨fun k => if h : k + 2 < l.length then Classical.choose (above_is (d := d) (l := l) (k := k) hd h) else 0, fun k h => ?_⟩
  simp only [dif_pos h]
  exact Classical.choose_spec (above_is (d := d) (l := l) (k := k) hd h)
theorem nsq_roots {d : Nat} (h : d ∈ ROOTS) : d < 64 ∧ NSq d := by
  have h1 : d < 64 := by
    have : ∀ d ∈ ROOTS, d < 64 := by decide
    exact this d h
  refine ⟨h1, nsq_small h1 ?_⟩
  have : ∀ d ∈ ROOTS, ∀ r < 8, r * r ≠ d := by decide
  exact this d h
/-- the draws -/
theorem draws_eq : f__law_draws = PV.f_draws := rfl
theorem law_draws_is {ns : List Int} (hl : ns.length ≤ 63) (many : Nat) (hm : many ≤ 1000) : ∃ l : List Nat, l.length = many ∧ f__law_draws [.list (ns.map .int), .int (many : Int)] = some (true, .list (l.map N)) := by
  obtain ⟨l, e1, h1, h2⟩ := draws_is (many := many) hl hm
  rw [← draws_eq] at e1
  exact ⟨l, h1, e1⟩
theorem ix_draw {l : List Nat} {k : Nat} (h : k < l.length) : evIx (.list (l.map N)) (.int (k : Int)) = some (false, .int (l[k] : Nat)) := by
  show (L2.atI (l.map N) (k : Int)).map _ = _
  rw [atI_N, List.getElem?_map, List.getElem?_eq_getElem h]
  rfl
end K83

set_option Elab.async false
set_option linter.all false
set_option maxRecDepth 100000
set_option maxHeartbeats 4000000
namespace K83
open PySem L2 PV Qu
variable {d : Nat}
theorem minus_sz {x y : Q d} {k l : Nat} (hx : Sz k x) (hy : Sz l y) : Sz (k + l + 1) (x - y) := by
  have e : x - y = x + -y := by grind
  rw [e]
  exact plus_sz hx (neg_sz hy)
theorem law_minus_is {x y : Q d} {k l : Nat} (hx : Sz k x) (hy : Sz l y) (h : k + l ≤ 8800) : f__law_minus [L x, L y] = some (false, L (x - y)) := by
  have e := law_plus_is hx (neg_sz hy) h
  have e2 : x + -y = x - y := by grind
  rw [e2] at e
  unfold f__law_minus evDef ir__law_minus
  simp only [q_wipeR_1, q_wipeR_2, q_asg_1, q_asg_2, q_asg_3, q_asg_4, q_asg_5, q_asg_6, q_asg_7, q_asgR_1, q_ownedArg_1, q_ownedArgs_1, q_ownedArgs_2, q_itemsOf_1, q_itemsOf_2, q_evE_1, q_evE_2, q_evE_3, q_evE_4, q_evE_5, q_evE_6, q_evE_7, q_evE_8, q_evE_9, q_evE_10, q_evE_11, q_evE_12, q_evE_13, q_evE_14, q_evE_15, q_evE_16, q_evE_17, q_evE_18, q_evE_19, q_evE_20, q_evEs_1, q_evEs_2, q_evP_1, q_evP_2, q_evC_1, q_evC_2, q_evI_1, q_evI_2, q_evRet_1, q_evS_1, q_evS_2, q_evS_3, q_evS_4, q_evS_5, q_evS_6, q_evS_7, q_evS_8, q_evS_9, q_evS_10, q_evS_11, q_evS_12, q_evS_13, q_evS_14, q_evS_15, q_evS_16, q_evSs_1, q_evSs_2, q_oa_0, q_rt_0, q_oa_1, q_rt_1, q_oa_2, q_rt_2, q_oa_3, q_rt_3, q_oa_4, q_rt_4, q_oa_5, q_rt_5, q_oa_6, q_rt_6, q_oa_7, q_rt_7, q_oa_8, q_rt_8, q_oa_9, q_rt_9, q_oa_10, q_rt_10, q_oa_11, q_rt_11, q_oa_12, q_rt_12, q_oa_13, q_rt_13, q_oa_14, q_rt_14, q_oa_15, q_rt_15, q_oa_16, q_rt_16, q_oa_17, q_rt_17, q_oa_18, q_rt_18, q_ar_0, q_ar_1, q_ar_2, asI_i, q_ret, q_bind, q_bindn, q_map, q_mapn, q_evT, q_own, startR, List.getElem?_cons_succ, List.getElem?_cons_zero, List.set_cons_succ, List.set_cons_zero, List.map_cons, List.map_nil, List.replicate, List.length_cons, List.length_nil, List.append_eq, List.nil_append, List.cons_append, Bool.and_true, Bool.true_and, Bool.and_false, Bool.false_and, Bool.not_true, Bool.not_false, if_true, if_false, reduceCtorEq, Nat.reduceSub, Nat.reduceAdd, Nat.reduceLeDiff, Bool.false_eq_true, Bool.or_false, Bool.false_or, ite_true, ite_false, lenOk_0, lenOk_1, lenOk_2, lenOk_3, lenOk_4, lenOk_5, lenOk_6, lenOk_7, lenOk_8, i_add, i_sub, i_neg, i_asI, N_int, i_inti, i_intb, decide_true, decide_false, L_0, L_1, L_2]
  rw [L_negt, e]
  rfl
open Classical in
theorem law_less_is [NSq d] {x y : Q d} {k l : Nat} (hd : d < 64) (hx : Sz k x) (hy : Sz l y) (h : k + l ≤ 7000) : f__law_less [.int (d : Int), L x, L y] = some (false, .bool (decide (x < y))) := by
  have e1 := law_minus_is hx hy (by omega)
  have e2 := law_sign_is hd (minus_sz hx hy) (by omega)
  unfold f__law_less evDef ir__law_less
  simp only [q_wipeR_1, q_wipeR_2, q_asg_1, q_asg_2, q_asg_3, q_asg_4, q_asg_5, q_asg_6, q_asg_7, q_asgR_1, q_ownedArg_1, q_ownedArgs_1, q_ownedArgs_2, q_itemsOf_1, q_itemsOf_2, q_evE_1, q_evE_2, q_evE_3, q_evE_4, q_evE_5, q_evE_6, q_evE_7, q_evE_8, q_evE_9, q_evE_10, q_evE_11, q_evE_12, q_evE_13, q_evE_14, q_evE_15, q_evE_16, q_evE_17, q_evE_18, q_evE_19, q_evE_20, q_evEs_1, q_evEs_2, q_evP_1, q_evP_2, q_evC_1, q_evC_2, q_evI_1, q_evI_2, q_evRet_1, q_evS_1, q_evS_2, q_evS_3, q_evS_4, q_evS_5, q_evS_6, q_evS_7, q_evS_8, q_evS_9, q_evS_10, q_evS_11, q_evS_12, q_evS_13, q_evS_14, q_evS_15, q_evS_16, q_evSs_1, q_evSs_2, q_oa_0, q_rt_0, q_oa_1, q_rt_1, q_oa_2, q_rt_2, q_oa_3, q_rt_3, q_oa_4, q_rt_4, q_oa_5, q_rt_5, q_oa_6, q_rt_6, q_oa_7, q_rt_7, q_oa_8, q_rt_8, q_oa_9, q_rt_9, q_oa_10, q_rt_10, q_oa_11, q_rt_11, q_oa_12, q_rt_12, q_oa_13, q_rt_13, q_oa_14, q_rt_14, q_oa_15, q_rt_15, q_oa_16, q_rt_16, q_oa_17, q_rt_17, q_oa_18, q_rt_18, q_ar_0, q_ar_1, q_ar_2, asI_i, q_ret, q_bind, q_bindn, q_map, q_mapn, q_evT, q_own, startR, List.getElem?_cons_succ, List.getElem?_cons_zero, List.set_cons_succ, List.set_cons_zero, List.map_cons, List.map_nil, List.replicate, List.length_cons, List.length_nil, List.append_eq, List.nil_append, List.cons_append, Bool.and_true, Bool.true_and, Bool.and_false, Bool.false_and, Bool.not_true, Bool.not_false, if_true, if_false, reduceCtorEq, Nat.reduceSub, Nat.reduceAdd, Nat.reduceLeDiff, Bool.false_eq_true, Bool.or_false, Bool.false_or, ite_true, ite_false, lenOk_0, lenOk_1, lenOk_2, lenOk_3, lenOk_4, lenOk_5, lenOk_6, lenOk_7, lenOk_8, i_add, i_sub, i_neg, i_asI, N_int, i_inti, i_intb, decide_true, decide_false, e1, e2, i_eq]
  congr 3
  rcases sgn_cases (x - y) with ⟨h1, h2⟩ | ⟨h1, h2⟩ | ⟨h1, h2⟩
  · rw [h2, decide_eq_false (by decide), decide_eq_false (by grind)]
  · rw [h2, decide_eq_false (by decide), decide_eq_false (by grind)]
  · rw [h2, decide_eq_true rfl, decide_eq_true (by grind)]
end K83

set_option Elab.async false
set_option linter.all false
set_option maxRecDepth 100000
set_option maxHeartbeats 4000000
namespace K83
open PySem L2 PV Qu
variable {d : Nat}
/-! ### the program's lengths -/
theorem divisor_is (a b : Nat) {k : Nat} (hb : b < 2 ^ k) (hk : k ≤ 9000) : f_common_divisor [.int a, .int b] = some (false, .int (Nat.gcd a b : Nat)) := by
  have e := gcd_loop (c := tst iw_common_divisor_1) (f := blk FUEL ib_common_divisor_1) (fun a b => by
    unfold tst iw_common_divisor_1
    simp only [q_wipeR_1, q_wipeR_2, q_asg_1, q_asg_2, q_asg_3, q_asg_4, q_asg_5, q_asg_6, q_asg_7, q_asgR_1, q_ownedArg_1, q_ownedArgs_1, q_ownedArgs_2, q_itemsOf_1, q_itemsOf_2, q_evE_1, q_evE_2, q_evE_3, q_evE_4, q_evE_5, q_evE_6, q_evE_7, q_evE_8, q_evE_9, q_evE_10, q_evE_11, q_evE_12, q_evE_13, q_evE_14, q_evE_15, q_evE_16, q_evE_17, q_evE_18, q_evE_19, q_evE_20, q_evEs_1, q_evEs_2, q_evP_1, q_evP_2, q_evC_1, q_evC_2, q_evI_1, q_evI_2, q_evRet_1, q_evS_1, q_evS_2, q_evS_3, q_evS_4, q_evS_5, q_evS_6, q_evS_7, q_evS_8, q_evS_9, q_evS_10, q_evS_11, q_evS_12, q_evS_13, q_evS_14, q_evS_15, q_evS_16, q_evSs_1, q_evSs_2, q_oa_0, q_rt_0, q_oa_1, q_rt_1, q_oa_2, q_rt_2, q_oa_3, q_rt_3, q_oa_4, q_rt_4, q_oa_5, q_rt_5, q_oa_6, q_rt_6, q_oa_7, q_rt_7, q_oa_8, q_rt_8, q_oa_9, q_rt_9, q_oa_10, q_rt_10, q_oa_11, q_rt_11, q_oa_12, q_rt_12, q_oa_13, q_rt_13, q_oa_14, q_rt_14, q_oa_15, q_rt_15, q_oa_16, q_rt_16, q_oa_17, q_rt_17, q_oa_18, q_rt_18, q_ar_0, q_ar_1, q_ar_2, asI_i, q_ret, q_bind, q_bindn, q_map, q_mapn, q_evT, q_own, startR, List.getElem?_cons_succ, List.getElem?_cons_zero, List.set_cons_succ, List.set_cons_zero, List.map_cons, List.map_nil, List.replicate, List.length_cons, List.length_nil, List.append_eq, List.nil_append, List.cons_append, Bool.and_true, Bool.true_and, Bool.and_false, Bool.false_and, Bool.not_true, Bool.not_false, if_true, if_false, reduceCtorEq, Nat.reduceSub, Nat.reduceAdd, Nat.reduceLeDiff, Bool.false_eq_true, Bool.or_false, Bool.false_or, ite_true, ite_false, lenOk_0, lenOk_1, lenOk_2, lenOk_3, lenOk_4, lenOk_5, lenOk_6, lenOk_7, lenOk_8, i_add, i_sub, i_neg, i_asI, N_int, i_inti, i_intb, decide_true, decide_false, i_gt]
    congr 1
    rw [Bool.eq_iff_iff, decide_eq_true_eq, decide_eq_true_eq]
    omega) (fun a b h => by
    unfold blk ib_common_divisor_1
    simp only [q_wipeR_1, q_wipeR_2, q_asg_1, q_asg_2, q_asg_3, q_asg_4, q_asg_5, q_asg_6, q_asg_7, q_asgR_1, q_ownedArg_1, q_ownedArgs_1, q_ownedArgs_2, q_itemsOf_1, q_itemsOf_2, q_evE_1, q_evE_2, q_evE_3, q_evE_4, q_evE_5, q_evE_6, q_evE_7, q_evE_8, q_evE_9, q_evE_10, q_evE_11, q_evE_12, q_evE_13, q_evE_14, q_evE_15, q_evE_16, q_evE_17, q_evE_18, q_evE_19, q_evE_20, q_evEs_1, q_evEs_2, q_evP_1, q_evP_2, q_evC_1, q_evC_2, q_evI_1, q_evI_2, q_evRet_1, q_evS_1, q_evS_2, q_evS_3, q_evS_4, q_evS_5, q_evS_6, q_evS_7, q_evS_8, q_evS_9, q_evS_10, q_evS_11, q_evS_12, q_evS_13, q_evS_14, q_evS_15, q_evS_16, q_evSs_1, q_evSs_2, q_oa_0, q_rt_0, q_oa_1, q_rt_1, q_oa_2, q_rt_2, q_oa_3, q_rt_3, q_oa_4, q_rt_4, q_oa_5, q_rt_5, q_oa_6, q_rt_6, q_oa_7, q_rt_7, q_oa_8, q_rt_8, q_oa_9, q_rt_9, q_oa_10, q_rt_10, q_oa_11, q_rt_11, q_oa_12, q_rt_12, q_oa_13, q_rt_13, q_oa_14, q_rt_14, q_oa_15, q_rt_15, q_oa_16, q_rt_16, q_oa_17, q_rt_17, q_oa_18, q_rt_18, q_ar_0, q_ar_1, q_ar_2, asI_i, q_ret, q_bind, q_bindn, q_map, q_mapn, q_evT, q_own, startR, List.getElem?_cons_succ, List.getElem?_cons_zero, List.set_cons_succ, List.set_cons_zero, List.map_cons, List.map_nil, List.replicate, List.length_cons, List.length_nil, List.append_eq, List.nil_append, List.cons_append, Bool.and_true, Bool.true_and, Bool.and_false, Bool.false_and, Bool.not_true, Bool.not_false, if_true, if_false, reduceCtorEq, Nat.reduceSub, Nat.reduceAdd, Nat.reduceLeDiff, Bool.false_eq_true, Bool.or_false, Bool.false_or, ite_true, ite_false, lenOk_0, lenOk_1, lenOk_2, lenOk_3, lenOk_4, lenOk_5, lenOk_6, lenOk_7, lenOk_8, i_add, i_sub, i_neg, i_asI, N_int, i_inti, i_intb, decide_true, decide_false, i_mod (show (0 : Int) < b by omega)]
    rfl) k a b FUEL hb (fuel_gcd hk)
  unfold f_common_divisor evDef ir_common_divisor
  simp only [q_wipeR_1, q_wipeR_2, q_asg_1, q_asg_2, q_asg_3, q_asg_4, q_asg_5, q_asg_6, q_asg_7, q_asgR_1, q_ownedArg_1, q_ownedArgs_1, q_ownedArgs_2, q_itemsOf_1, q_itemsOf_2, q_evE_1, q_evE_2, q_evE_3, q_evE_4, q_evE_5, q_evE_6, q_evE_7, q_evE_8, q_evE_9, q_evE_10, q_evE_11, q_evE_12, q_evE_13, q_evE_14, q_evE_15, q_evE_16, q_evE_17, q_evE_18, q_evE_19, q_evE_20, q_evEs_1, q_evEs_2, q_evP_1, q_evP_2, q_evC_1, q_evC_2, q_evI_1, q_evI_2, q_evRet_1, q_evS_1, q_evS_2, q_evS_3, q_evS_4, q_evS_5, q_evS_6, q_evS_7, q_evS_8, q_evS_9, q_evS_10, q_evS_11, q_evS_12, q_evS_13, q_evS_14, q_evS_15, q_evS_16, q_evSs_1, q_evSs_2, q_oa_0, q_rt_0, q_oa_1, q_rt_1, q_oa_2, q_rt_2, q_oa_3, q_rt_3, q_oa_4, q_rt_4, q_oa_5, q_rt_5, q_oa_6, q_rt_6, q_oa_7, q_rt_7, q_oa_8, q_rt_8, q_oa_9, q_rt_9, q_oa_10, q_rt_10, q_oa_11, q_rt_11, q_oa_12, q_rt_12, q_oa_13, q_rt_13, q_oa_14, q_rt_14, q_oa_15, q_rt_15, q_oa_16, q_rt_16, q_oa_17, q_rt_17, q_oa_18, q_rt_18, q_ar_0, q_ar_1, q_ar_2, asI_i, q_ret, q_bind, q_bindn, q_map, q_mapn, q_evT, q_own, startR, List.getElem?_cons_succ, List.getElem?_cons_zero, List.set_cons_succ, List.set_cons_zero, List.map_cons, List.map_nil, List.replicate, List.length_cons, List.length_nil, List.append_eq, List.nil_append, List.cons_append, Bool.and_true, Bool.true_and, Bool.and_false, Bool.false_and, Bool.not_true, Bool.not_false, if_true, if_false, reduceCtorEq, Nat.reduceSub, Nat.reduceAdd, Nat.reduceLeDiff, Bool.false_eq_true, Bool.or_false, Bool.false_or, ite_true, ite_false, lenOk_0, lenOk_1, lenOk_2, lenOk_3, lenOk_4, lenOk_5, lenOk_6, lenOk_7, lenOk_8, i_add, i_sub, i_neg, i_asI, N_int, i_inti, i_intb, decide_true, decide_false]
  rw [e]
  simp only [q_wipeR_1, q_wipeR_2, q_asg_1, q_asg_2, q_asg_3, q_asg_4, q_asg_5, q_asg_6, q_asg_7, q_asgR_1, q_ownedArg_1, q_ownedArgs_1, q_ownedArgs_2, q_itemsOf_1, q_itemsOf_2, q_evE_1, q_evE_2, q_evE_3, q_evE_4, q_evE_5, q_evE_6, q_evE_7, q_evE_8, q_evE_9, q_evE_10, q_evE_11, q_evE_12, q_evE_13, q_evE_14, q_evE_15, q_evE_16, q_evE_17, q_evE_18, q_evE_19, q_evE_20, q_evEs_1, q_evEs_2, q_evP_1, q_evP_2, q_evC_1, q_evC_2, q_evI_1, q_evI_2, q_evRet_1, q_evS_1, q_evS_2, q_evS_3, q_evS_4, q_evS_5, q_evS_6, q_evS_7, q_evS_8, q_evS_9, q_evS_10, q_evS_11, q_evS_12, q_evS_13, q_evS_14, q_evS_15, q_evS_16, q_evSs_1, q_evSs_2, q_oa_0, q_rt_0, q_oa_1, q_rt_1, q_oa_2, q_rt_2, q_oa_3, q_rt_3, q_oa_4, q_rt_4, q_oa_5, q_rt_5, q_oa_6, q_rt_6, q_oa_7, q_rt_7, q_oa_8, q_rt_8, q_oa_9, q_rt_9, q_oa_10, q_rt_10, q_oa_11, q_rt_11, q_oa_12, q_rt_12, q_oa_13, q_rt_13, q_oa_14, q_rt_14, q_oa_15, q_rt_15, q_oa_16, q_rt_16, q_oa_17, q_rt_17, q_oa_18, q_rt_18, q_ar_0, q_ar_1, q_ar_2, asI_i, q_ret, q_bind, q_bindn, q_map, q_mapn, q_evT, q_own, startR, List.getElem?_cons_succ, List.getElem?_cons_zero, List.set_cons_succ, List.set_cons_zero, List.map_cons, List.map_nil, List.replicate, List.length_cons, List.length_nil, List.append_eq, List.nil_append, List.cons_append, Bool.and_true, Bool.true_and, Bool.and_false, Bool.false_and, Bool.not_true, Bool.not_false, if_true, if_false, reduceCtorEq, Nat.reduceSub, Nat.reduceAdd, Nat.reduceLeDiff, Bool.false_eq_true, Bool.or_false, Bool.false_or, ite_true, ite_false, lenOk_0, lenOk_1, lenOk_2, lenOk_3, lenOk_4, lenOk_5, lenOk_6, lenOk_7, lenOk_8, i_add, i_sub, i_neg, i_asI, N_int, i_inti, i_intb, decide_true, decide_false]
theorem three_is {p q s : Int} {k : Nat} (hq : q.natAbs < 2 ^ k) (hs : s.natAbs < 2 ^ k) (hk : k ≤ 8900) : f_common_of_three [.int p, .int q, .int s] = some (false, .int (g3 p q s : Nat)) := by
  have c1 := divisor_is p.natAbs q.natAbs hq (by omega)
  have c2 := divisor_is (Nat.gcd p.natAbs q.natAbs) s.natAbs hs (by omega)
  unfold f_common_of_three evDef ir_common_of_three
  simp only [q_wipeR_1, q_wipeR_2, q_asg_1, q_asg_2, q_asg_3, q_asg_4, q_asg_5, q_asg_6, q_asg_7, q_asgR_1, q_ownedArg_1, q_ownedArgs_1, q_ownedArgs_2, q_itemsOf_1, q_itemsOf_2, q_evE_1, q_evE_2, q_evE_3, q_evE_4, q_evE_5, q_evE_6, q_evE_7, q_evE_8, q_evE_9, q_evE_10, q_evE_11, q_evE_12, q_evE_13, q_evE_14, q_evE_15, q_evE_16, q_evE_17, q_evE_18, q_evE_19, q_evE_20, q_evEs_1, q_evEs_2, q_evP_1, q_evP_2, q_evC_1, q_evC_2, q_evI_1, q_evI_2, q_evRet_1, q_evS_1, q_evS_2, q_evS_3, q_evS_4, q_evS_5, q_evS_6, q_evS_7, q_evS_8, q_evS_9, q_evS_10, q_evS_11, q_evS_12, q_evS_13, q_evS_14, q_evS_15, q_evS_16, q_evSs_1, q_evSs_2, q_oa_0, q_rt_0, q_oa_1, q_rt_1, q_oa_2, q_rt_2, q_oa_3, q_rt_3, q_oa_4, q_rt_4, q_oa_5, q_rt_5, q_oa_6, q_rt_6, q_oa_7, q_rt_7, q_oa_8, q_rt_8, q_oa_9, q_rt_9, q_oa_10, q_rt_10, q_oa_11, q_rt_11, q_oa_12, q_rt_12, q_oa_13, q_rt_13, q_oa_14, q_rt_14, q_oa_15, q_rt_15, q_oa_16, q_rt_16, q_oa_17, q_rt_17, q_oa_18, q_rt_18, q_ar_0, q_ar_1, q_ar_2, asI_i, q_ret, q_bind, q_bindn, q_map, q_mapn, q_evT, q_own, startR, List.getElem?_cons_succ, List.getElem?_cons_zero, List.set_cons_succ, List.set_cons_zero, List.map_cons, List.map_nil, List.replicate, List.length_cons, List.length_nil, List.append_eq, List.nil_append, List.cons_append, Bool.and_true, Bool.true_and, Bool.and_false, Bool.false_and, Bool.not_true, Bool.not_false, if_true, if_false, reduceCtorEq, Nat.reduceSub, Nat.reduceAdd, Nat.reduceLeDiff, Bool.false_eq_true, Bool.or_false, Bool.false_or, ite_true, ite_false, lenOk_0, lenOk_1, lenOk_2, lenOk_3, lenOk_4, lenOk_5, lenOk_6, lenOk_7, lenOk_8, i_add, i_sub, i_neg, i_asI, N_int, i_inti, i_intb, decide_true, decide_false, i_abs, c1, c2]
  rfl
theorem p_length_is {p q s : Int} {k : Nat} (h0 : s ≠ 0) (hq : q.natAbs < 2 ^ k) (hs : s.natAbs < 2 ^ k) (hk : k ≤ 8900) : f_length [.int p, .int q, .int s] = some (false, L (mkQ d p q s)) := by
  have c1 := three_is (p := p) hq hs hk
  have hd : divOk (dv p q s) = true := divOk_b (dv_ne h0) (Nat.lt_of_le_of_lt (dv_le h0) hs) hk
  unfold f_length evDef ir_length
  by_cases h : s < 0
  · have e : -(g3 p q s : Int) = dv p q s := by unfold dv; rw [if_pos h]
    simp only [q_wipeR_1, q_wipeR_2, q_asg_1, q_asg_2, q_asg_3, q_asg_4, q_asg_5, q_asg_6, q_asg_7, q_asgR_1, q_ownedArg_1, q_ownedArgs_1, q_ownedArgs_2, q_itemsOf_1, q_itemsOf_2, q_evE_1, q_evE_2, q_evE_3, q_evE_4, q_evE_5, q_evE_6, q_evE_7, q_evE_8, q_evE_9, q_evE_10, q_evE_11, q_evE_12, q_evE_13, q_evE_14, q_evE_15, q_evE_16, q_evE_17, q_evE_18, q_evE_19, q_evE_20, q_evEs_1, q_evEs_2, q_evP_1, q_evP_2, q_evC_1, q_evC_2, q_evI_1, q_evI_2, q_evRet_1, q_evS_1, q_evS_2, q_evS_3, q_evS_4, q_evS_5, q_evS_6, q_evS_7, q_evS_8, q_evS_9, q_evS_10, q_evS_11, q_evS_12, q_evS_13, q_evS_14, q_evS_15, q_evS_16, q_evSs_1, q_evSs_2, q_oa_0, q_rt_0, q_oa_1, q_rt_1, q_oa_2, q_rt_2, q_oa_3, q_rt_3, q_oa_4, q_rt_4, q_oa_5, q_rt_5, q_oa_6, q_rt_6, q_oa_7, q_rt_7, q_oa_8, q_rt_8, q_oa_9, q_rt_9, q_oa_10, q_rt_10, q_oa_11, q_rt_11, q_oa_12, q_rt_12, q_oa_13, q_rt_13, q_oa_14, q_rt_14, q_oa_15, q_rt_15, q_oa_16, q_rt_16, q_oa_17, q_rt_17, q_oa_18, q_rt_18, q_ar_0, q_ar_1, q_ar_2, asI_i, q_ret, q_bind, q_bindn, q_map, q_mapn, q_evT, q_own, startR, List.getElem?_cons_succ, List.getElem?_cons_zero, List.set_cons_succ, List.set_cons_zero, List.map_cons, List.map_nil, List.replicate, List.length_cons, List.length_nil, List.append_eq, List.nil_append, List.cons_append, Bool.and_true, Bool.true_and, Bool.and_false, Bool.false_and, Bool.not_true, Bool.not_false, if_true, if_false, reduceCtorEq, Nat.reduceSub, Nat.reduceAdd, Nat.reduceLeDiff, Bool.false_eq_true, Bool.or_false, Bool.false_or, ite_true, ite_false, lenOk_0, lenOk_1, lenOk_2, lenOk_3, lenOk_4, lenOk_5, lenOk_6, lenOk_7, lenOk_8, i_add, i_sub, i_neg, i_asI, N_int, i_inti, i_intb, decide_true, decide_false, c1, i_lt, decide_eq_true h, e, i_fdiv, hd]
    rw [L_nz h0 rfl]
  · have e : (g3 p q s : Int) = dv p q s := by unfold dv; rw [if_neg h]
    simp only [q_wipeR_1, q_wipeR_2, q_asg_1, q_asg_2, q_asg_3, q_asg_4, q_asg_5, q_asg_6, q_asg_7, q_asgR_1, q_ownedArg_1, q_ownedArgs_1, q_ownedArgs_2, q_itemsOf_1, q_itemsOf_2, q_evE_1, q_evE_2, q_evE_3, q_evE_4, q_evE_5, q_evE_6, q_evE_7, q_evE_8, q_evE_9, q_evE_10, q_evE_11, q_evE_12, q_evE_13, q_evE_14, q_evE_15, q_evE_16, q_evE_17, q_evE_18, q_evE_19, q_evE_20, q_evEs_1, q_evEs_2, q_evP_1, q_evP_2, q_evC_1, q_evC_2, q_evI_1, q_evI_2, q_evRet_1, q_evS_1, q_evS_2, q_evS_3, q_evS_4, q_evS_5, q_evS_6, q_evS_7, q_evS_8, q_evS_9, q_evS_10, q_evS_11, q_evS_12, q_evS_13, q_evS_14, q_evS_15, q_evS_16, q_evSs_1, q_evSs_2, q_oa_0, q_rt_0, q_oa_1, q_rt_1, q_oa_2, q_rt_2, q_oa_3, q_rt_3, q_oa_4, q_rt_4, q_oa_5, q_rt_5, q_oa_6, q_rt_6, q_oa_7, q_rt_7, q_oa_8, q_rt_8, q_oa_9, q_rt_9, q_oa_10, q_rt_10, q_oa_11, q_rt_11, q_oa_12, q_rt_12, q_oa_13, q_rt_13, q_oa_14, q_rt_14, q_oa_15, q_rt_15, q_oa_16, q_rt_16, q_oa_17, q_rt_17, q_oa_18, q_rt_18, q_ar_0, q_ar_1, q_ar_2, asI_i, q_ret, q_bind, q_bindn, q_map, q_mapn, q_evT, q_own, startR, List.getElem?_cons_succ, List.getElem?_cons_zero, List.set_cons_succ, List.set_cons_zero, List.map_cons, List.map_nil, List.replicate, List.length_cons, List.length_nil, List.append_eq, List.nil_append, List.cons_append, Bool.and_true, Bool.true_and, Bool.and_false, Bool.false_and, Bool.not_true, Bool.not_false, if_true, if_false, reduceCtorEq, Nat.reduceSub, Nat.reduceAdd, Nat.reduceLeDiff, Bool.false_eq_true, Bool.or_false, Bool.false_or, ite_true, ite_false, lenOk_0, lenOk_1, lenOk_2, lenOk_3, lenOk_4, lenOk_5, lenOk_6, lenOk_7, lenOk_8, i_add, i_sub, i_neg, i_asI, N_int, i_inti, i_intb, decide_true, decide_false, c1, i_lt, decide_eq_false h, e, i_fdiv, hd]
    rw [L_nz h0 rfl]
theorem p_plus_is {x y : Q d} {k l : Nat} (hx : Sz k x) (hy : Sz l y) (h : k + l ≤ 8800) : f_plus [L x, L y] = some (false, L (x + y)) := by
  have hs : x.s * y.s ≠ 0 := by have := Int.mul_pos (s_pos x) (s_pos y); omega
  have e := p_length_is (d := d) (p := x.p * y.s + y.p * x.s) (k := k + l + 1) hs (nat_add_lt (nat_mul_lt hx.q hy.s) (by rw [Nat.add_comm k l]; exact nat_mul_lt hy.q hx.s)) (nat_lt_mono (nat_mul_lt hx.s hy.s) (by omega)) (by omega)
  rw [t_plus] at e
  unfold f_plus evDef ir_plus
  simp only [q_wipeR_1, q_wipeR_2, q_asg_1, q_asg_2, q_asg_3, q_asg_4, q_asg_5, q_asg_6, q_asg_7, q_asgR_1, q_ownedArg_1, q_ownedArgs_1, q_ownedArgs_2, q_itemsOf_1, q_itemsOf_2, q_evE_1, q_evE_2, q_evE_3, q_evE_4, q_evE_5, q_evE_6, q_evE_7, q_evE_8, q_evE_9, q_evE_10, q_evE_11, q_evE_12, q_evE_13, q_evE_14, q_evE_15, q_evE_16, q_evE_17, q_evE_18, q_evE_19, q_evE_20, q_evEs_1, q_evEs_2, q_evP_1, q_evP_2, q_evC_1, q_evC_2, q_evI_1, q_evI_2, q_evRet_1, q_evS_1, q_evS_2, q_evS_3, q_evS_4, q_evS_5, q_evS_6, q_evS_7, q_evS_8, q_evS_9, q_evS_10, q_evS_11, q_evS_12, q_evS_13, q_evS_14, q_evS_15, q_evS_16, q_evSs_1, q_evSs_2, q_oa_0, q_rt_0, q_oa_1, q_rt_1, q_oa_2, q_rt_2, q_oa_3, q_rt_3, q_oa_4, q_rt_4, q_oa_5, q_rt_5, q_oa_6, q_rt_6, q_oa_7, q_rt_7, q_oa_8, q_rt_8, q_oa_9, q_rt_9, q_oa_10, q_rt_10, q_oa_11, q_rt_11, q_oa_12, q_rt_12, q_oa_13, q_rt_13, q_oa_14, q_rt_14, q_oa_15, q_rt_15, q_oa_16, q_rt_16, q_oa_17, q_rt_17, q_oa_18, q_rt_18, q_ar_0, q_ar_1, q_ar_2, asI_i, q_ret, q_bind, q_bindn, q_map, q_mapn, q_evT, q_own, startR, List.getElem?_cons_succ, List.getElem?_cons_zero, List.set_cons_succ, List.set_cons_zero, List.map_cons, List.map_nil, List.replicate, List.length_cons, List.length_nil, List.append_eq, List.nil_append, List.cons_append, Bool.and_true, Bool.true_and, Bool.and_false, Bool.false_and, Bool.not_true, Bool.not_false, if_true, if_false, reduceCtorEq, Nat.reduceSub, Nat.reduceAdd, Nat.reduceLeDiff, Bool.false_eq_true, Bool.or_false, Bool.false_or, ite_true, ite_false, lenOk_0, lenOk_1, lenOk_2, lenOk_3, lenOk_4, lenOk_5, lenOk_6, lenOk_7, lenOk_8, i_add, i_sub, i_neg, i_asI, N_int, i_inti, i_intb, decide_true, decide_false, L_asg, i_mul, mul_of hx.p hy.s (by omega), mul_of hy.p hx.s (by omega), mul_of hx.q hy.s (by omega), mul_of hy.q hx.s (by omega), mul_of hx.s hy.s (by omega), e]
end K83

set_option Elab.async false
set_option linter.all false
set_option maxRecDepth 100000
set_option maxHeartbeats 4000000
namespace K83
open PySem L2 PV Qu
open Classical
variable {d : Nat}
/-! ### the program's order -/
theorem pp_length_is {p q s : Int} {k : Nat} (h0 : s ≠ 0) (hq : q.natAbs < 2 ^ k) (hs : s.natAbs < 2 ^ k) (hk : k ≤ 8900) : f_length [.int p, .int q, .int s] = some (false, L (mkQ d p q s)) := p_length_is h0 hq hs hk
theorem negative_is (x : Q d) : f_negative [L x] = some (false, L (-x)) := by
  unfold f_negative evDef ir_negative
  simp only [q_wipeR_1, q_wipeR_2, q_asg_1, q_asg_2, q_asg_3, q_asg_4, q_asg_5, q_asg_6, q_asg_7, q_asgR_1, q_ownedArg_1, q_ownedArgs_1, q_ownedArgs_2, q_itemsOf_1, q_itemsOf_2, q_evE_1, q_evE_2, q_evE_3, q_evE_4, q_evE_5, q_evE_6, q_evE_7, q_evE_8, q_evE_9, q_evE_10, q_evE_11, q_evE_12, q_evE_13, q_evE_14, q_evE_15, q_evE_16, q_evE_17, q_evE_18, q_evE_19, q_evE_20, q_evEs_1, q_evEs_2, q_evP_1, q_evP_2, q_evC_1, q_evC_2, q_evI_1, q_evI_2, q_evRet_1, q_evS_1, q_evS_2, q_evS_3, q_evS_4, q_evS_5, q_evS_6, q_evS_7, q_evS_8, q_evS_9, q_evS_10, q_evS_11, q_evS_12, q_evS_13, q_evS_14, q_evS_15, q_evS_16, q_evSs_1, q_evSs_2, q_oa_0, q_rt_0, q_oa_1, q_rt_1, q_oa_2, q_rt_2, q_oa_3, q_rt_3, q_oa_4, q_rt_4, q_oa_5, q_rt_5, q_oa_6, q_rt_6, q_oa_7, q_rt_7, q_oa_8, q_rt_8, q_oa_9, q_rt_9, q_oa_10, q_rt_10, q_oa_11, q_rt_11, q_oa_12, q_rt_12, q_oa_13, q_rt_13, q_oa_14, q_rt_14, q_oa_15, q_rt_15, q_oa_16, q_rt_16, q_oa_17, q_rt_17, q_oa_18, q_rt_18, q_ar_0, q_ar_1, q_ar_2, asI_i, q_ret, q_bind, q_bindn, q_map, q_mapn, q_evT, q_own, startR, List.getElem?_cons_succ, List.getElem?_cons_zero, List.set_cons_succ, List.set_cons_zero, List.map_cons, List.map_nil, List.replicate, List.length_cons, List.length_nil, List.append_eq, List.nil_append, List.cons_append, Bool.and_true, Bool.true_and, Bool.and_false, Bool.false_and, Bool.not_true, Bool.not_false, if_true, if_false, reduceCtorEq, Nat.reduceSub, Nat.reduceAdd, Nat.reduceLeDiff, Bool.false_eq_true, Bool.or_false, Bool.false_or, ite_true, ite_false, lenOk_0, lenOk_1, lenOk_2, lenOk_3, lenOk_4, lenOk_5, lenOk_6, lenOk_7, lenOk_8, i_add, i_sub, i_neg, i_asI, N_int, i_inti, i_intb, decide_true, decide_false, L_asg, L_negt]
theorem minus_is {x y : Q d} {k l : Nat} (hx : Sz k x) (hy : Sz l y) (h : k + l ≤ 8800) : f_minus [L x, L y] = some (false, L (x - y)) := by
  have e := p_plus_is hx (neg_sz hy) h
  have e2 : x + -y = x - y := by grind
  rw [e2] at e
  unfold f_minus evDef ir_minus
  simp only [q_wipeR_1, q_wipeR_2, q_asg_1, q_asg_2, q_asg_3, q_asg_4, q_asg_5, q_asg_6, q_asg_7, q_asgR_1, q_ownedArg_1, q_ownedArgs_1, q_ownedArgs_2, q_itemsOf_1, q_itemsOf_2, q_evE_1, q_evE_2, q_evE_3, q_evE_4, q_evE_5, q_evE_6, q_evE_7, q_evE_8, q_evE_9, q_evE_10, q_evE_11, q_evE_12, q_evE_13, q_evE_14, q_evE_15, q_evE_16, q_evE_17, q_evE_18, q_evE_19, q_evE_20, q_evEs_1, q_evEs_2, q_evP_1, q_evP_2, q_evC_1, q_evC_2, q_evI_1, q_evI_2, q_evRet_1, q_evS_1, q_evS_2, q_evS_3, q_evS_4, q_evS_5, q_evS_6, q_evS_7, q_evS_8, q_evS_9, q_evS_10, q_evS_11, q_evS_12, q_evS_13, q_evS_14, q_evS_15, q_evS_16, q_evSs_1, q_evSs_2, q_oa_0, q_rt_0, q_oa_1, q_rt_1, q_oa_2, q_rt_2, q_oa_3, q_rt_3, q_oa_4, q_rt_4, q_oa_5, q_rt_5, q_oa_6, q_rt_6, q_oa_7, q_rt_7, q_oa_8, q_rt_8, q_oa_9, q_rt_9, q_oa_10, q_rt_10, q_oa_11, q_rt_11, q_oa_12, q_rt_12, q_oa_13, q_rt_13, q_oa_14, q_rt_14, q_oa_15, q_rt_15, q_oa_16, q_rt_16, q_oa_17, q_rt_17, q_oa_18, q_rt_18, q_ar_0, q_ar_1, q_ar_2, asI_i, q_ret, q_bind, q_bindn, q_map, q_mapn, q_evT, q_own, startR, List.getElem?_cons_succ, List.getElem?_cons_zero, List.set_cons_succ, List.set_cons_zero, List.map_cons, List.map_nil, List.replicate, List.length_cons, List.length_nil, List.append_eq, List.nil_append, List.cons_append, Bool.and_true, Bool.true_and, Bool.and_false, Bool.false_and, Bool.not_true, Bool.not_false, if_true, if_false, reduceCtorEq, Nat.reduceSub, Nat.reduceAdd, Nat.reduceLeDiff, Bool.false_eq_true, Bool.or_false, Bool.false_or, ite_true, ite_false, lenOk_0, lenOk_1, lenOk_2, lenOk_3, lenOk_4, lenOk_5, lenOk_6, lenOk_7, lenOk_8, i_add, i_sub, i_neg, i_asI, N_int, i_inti, i_intb, decide_true, decide_false, negative_is, e]
def sg (i : Int) : Int := if 0 < i then 1 else if i < 0 then -1 else 0
theorem sign_of_number_is (i : Int) : f_sign_of_number [.int i] = some (false, .int (sg i)) := by
  have e : ((if decide (0 < i) = true then (1 : Int) else 0) - (if decide (i < 0) = true then 1 else 0)) = sg i := by
    unfold sg
    by_cases h1 : 0 < i
    · rw [if_pos (decide_eq_true h1), if_pos h1, if_neg (by simpa using Int.le_of_lt h1)]; rfl
    · rw [if_neg (by simpa using h1), if_neg h1]
      by_cases h2 : i < 0
      · rw [if_pos (decide_eq_true h2), if_pos h2]; rfl
      · rw [if_neg (by simpa using h2), if_neg h2]; rfl
  unfold f_sign_of_number evDef ir_sign_of_number
  simp only [q_wipeR_1, q_wipeR_2, q_asg_1, q_asg_2, q_asg_3, q_asg_4, q_asg_5, q_asg_6, q_asg_7, q_asgR_1, q_ownedArg_1, q_ownedArgs_1, q_ownedArgs_2, q_itemsOf_1, q_itemsOf_2, q_evE_1, q_evE_2, q_evE_3, q_evE_4, q_evE_5, q_evE_6, q_evE_7, q_evE_8, q_evE_9, q_evE_10, q_evE_11, q_evE_12, q_evE_13, q_evE_14, q_evE_15, q_evE_16, q_evE_17, q_evE_18, q_evE_19, q_evE_20, q_evEs_1, q_evEs_2, q_evP_1, q_evP_2, q_evC_1, q_evC_2, q_evI_1, q_evI_2, q_evRet_1, q_evS_1, q_evS_2, q_evS_3, q_evS_4, q_evS_5, q_evS_6, q_evS_7, q_evS_8, q_evS_9, q_evS_10, q_evS_11, q_evS_12, q_evS_13, q_evS_14, q_evS_15, q_evS_16, q_evSs_1, q_evSs_2, q_oa_0, q_rt_0, q_oa_1, q_rt_1, q_oa_2, q_rt_2, q_oa_3, q_rt_3, q_oa_4, q_rt_4, q_oa_5, q_rt_5, q_oa_6, q_rt_6, q_oa_7, q_rt_7, q_oa_8, q_rt_8, q_oa_9, q_rt_9, q_oa_10, q_rt_10, q_oa_11, q_rt_11, q_oa_12, q_rt_12, q_oa_13, q_rt_13, q_oa_14, q_rt_14, q_oa_15, q_rt_15, q_oa_16, q_rt_16, q_oa_17, q_rt_17, q_oa_18, q_rt_18, q_ar_0, q_ar_1, q_ar_2, asI_i, q_ret, q_bind, q_bindn, q_map, q_mapn, q_evT, q_own, startR, List.getElem?_cons_succ, List.getElem?_cons_zero, List.set_cons_succ, List.set_cons_zero, List.map_cons, List.map_nil, List.replicate, List.length_cons, List.length_nil, List.append_eq, List.nil_append, List.cons_append, Bool.and_true, Bool.true_and, Bool.and_false, Bool.false_and, Bool.not_true, Bool.not_false, if_true, if_false, reduceCtorEq, Nat.reduceSub, Nat.reduceAdd, Nat.reduceLeDiff, Bool.false_eq_true, Bool.or_false, Bool.false_or, ite_true, ite_false, lenOk_0, lenOk_1, lenOk_2, lenOk_3, lenOk_4, lenOk_5, lenOk_6, lenOk_7, lenOk_8, i_add, i_sub, i_neg, i_asI, N_int, i_inti, i_intb, decide_true, decide_false, i_gt, i_lt, e]
theorem sgn_two [NSq d] (x : Q d) : sgn x = if 0 ≤ x.p * x.q then sg (x.p + x.q) else if (d : Int) * x.q * x.q < x.p * x.p then sg x.p else sg x.q := by
  rw [sgn_int]
  have hz := zero_int (x := x)
  have hn : x ≠ 0 → x.p * x.p - (d : Int) * x.q * x.q ≠ 0 := fun h => nrm_int_ne h
  have hn : ¬ (x.p = 0 ∧ x.q = 0) → x.p * x.p - (d : Int) * x.q * x.q ≠ 0 := fun h => hn (mt hz.mp h)
  generalize x.p = p at *
  generalize x.q = q at *
  have m1 : 0 < p → 0 < q → 0 ≤ p * q := fun h1 h2 => Int.le_of_lt (Int.mul_pos h1 h2)
  have m2 : p < 0 → q < 0 → 0 ≤ p * q := fun h1 h2 => Int.le_of_lt (Int.mul_pos_of_neg_of_neg h1 h2)
  have m3 : 0 < p → q < 0 → p * q < 0 := fun h1 h2 => Int.mul_neg_of_pos_of_neg h1 h2
  have m4 : p < 0 → 0 < q → p * q < 0 := fun h1 h2 => Int.mul_neg_of_neg_of_pos h1 h2
  have m5 : p = 0 → p * q = 0 := fun h => by rw [h, Int.zero_mul]
  have m6 : q = 0 → p * q = 0 := fun h => by rw [h, Int.mul_zero]
  generalize p * q = M at *
  generalize p * p = A at *
  generalize (d : Int) * q * q = B at *
  unfold sg
  rcases Int.lt_trichotomy p 0 with h1 | h1 | h1 <;> rcases Int.lt_trichotomy q 0 with h2 | h2 | h2
  · have := m2 h1 h2
    rw [if_neg (by omega), if_pos (by omega), if_pos this, if_neg (by omega), if_pos (by omega)]
  · have := m6 h2
    rw [if_neg (by omega), if_pos (by omega), if_pos (by omega), if_neg (by omega), if_pos (by omega)]
  · have := m4 h1 h2
    have := hn (by omega)
    rw [if_neg (by omega), if_neg (by omega), if_pos h1, if_neg (show ¬ 0 ≤ M by omega)]
    by_cases c : B < A
    · rw [if_neg (by omega), if_pos c, if_neg (by omega), if_pos h1]; rfl
    · rw [if_pos (by omega), if_neg c, if_pos h2]; rfl
  · have := m5 h1
    rw [if_neg (by omega), if_pos (by omega), if_pos (by omega), if_neg (by omega), if_pos (by omega)]
  · have := m5 h1
    rw [if_pos (by omega), if_neg (by omega), if_pos (by omega), if_neg (by omega), if_neg (by omega)]
  · have := m5 h1
    rw [if_pos (by omega), if_pos (by omega), if_pos (by omega), if_pos (by omega)]
  · have := m3 h1 h2
    have := hn (by omega)
    rw [if_neg (by omega), if_neg (by omega), if_neg (by omega), if_neg (show ¬ 0 ≤ M by omega)]
    by_cases c : B < A
    · rw [if_neg (by omega), if_pos c, if_pos h1]; rfl
    · rw [if_pos (by omega), if_neg c, if_neg (by omega), if_pos h2]; rfl
  · have := m6 h2
    rw [if_pos (by omega), if_pos (by omega), if_pos (by omega), if_pos (by omega)]
  · have := m1 h1 h2
    rw [if_pos (by omega), if_pos (by omega), if_pos this, if_pos (by omega)]
theorem sign_of_is [NSq d] {x : Q d} {k : Nat} (hd : d < 64) (hx : Sz k x) (hk : k ≤ 4000) : f_sign_of [.int (d : Int), L x] = some (false, .int (sgn x)) := by
  have h6 : ((d : Int)).natAbs < 2 ^ 6 := by omega
  rw [sgn_two]
  unfold f_sign_of evDef ir_sign_of
  by_cases c1 : 0 ≤ x.p * x.q
  · rw [if_pos c1]
    simp only [q_wipeR_1, q_wipeR_2, q_asg_1, q_asg_2, q_asg_3, q_asg_4, q_asg_5, q_asg_6, q_asg_7, q_asgR_1, q_ownedArg_1, q_ownedArgs_1, q_ownedArgs_2, q_itemsOf_1, q_itemsOf_2, q_evE_1, q_evE_2, q_evE_3, q_evE_4, q_evE_5, q_evE_6, q_evE_7, q_evE_8, q_evE_9, q_evE_10, q_evE_11, q_evE_12, q_evE_13, q_evE_14, q_evE_15, q_evE_16, q_evE_17, q_evE_18, q_evE_19, q_evE_20, q_evEs_1, q_evEs_2, q_evP_1, q_evP_2, q_evC_1, q_evC_2, q_evI_1, q_evI_2, q_evRet_1, q_evS_1, q_evS_2, q_evS_3, q_evS_4, q_evS_5, q_evS_6, q_evS_7, q_evS_8, q_evS_9, q_evS_10, q_evS_11, q_evS_12, q_evS_13, q_evS_14, q_evS_15, q_evS_16, q_evSs_1, q_evSs_2, q_oa_0, q_rt_0, q_oa_1, q_rt_1, q_oa_2, q_rt_2, q_oa_3, q_rt_3, q_oa_4, q_rt_4, q_oa_5, q_rt_5, q_oa_6, q_rt_6, q_oa_7, q_rt_7, q_oa_8, q_rt_8, q_oa_9, q_rt_9, q_oa_10, q_rt_10, q_oa_11, q_rt_11, q_oa_12, q_rt_12, q_oa_13, q_rt_13, q_oa_14, q_rt_14, q_oa_15, q_rt_15, q_oa_16, q_rt_16, q_oa_17, q_rt_17, q_oa_18, q_rt_18, q_ar_0, q_ar_1, q_ar_2, asI_i, q_ret, q_bind, q_bindn, q_map, q_mapn, q_evT, q_own, startR, List.getElem?_cons_succ, List.getElem?_cons_zero, List.set_cons_succ, List.set_cons_zero, List.map_cons, List.map_nil, List.replicate, List.length_cons, List.length_nil, List.append_eq, List.nil_append, List.cons_append, Bool.and_true, Bool.true_and, Bool.and_false, Bool.false_and, Bool.not_true, Bool.not_false, if_true, if_false, reduceCtorEq, Nat.reduceSub, Nat.reduceAdd, Nat.reduceLeDiff, Bool.false_eq_true, Bool.or_false, Bool.false_or, ite_true, ite_false, lenOk_0, lenOk_1, lenOk_2, lenOk_3, lenOk_4, lenOk_5, lenOk_6, lenOk_7, lenOk_8, i_add, i_sub, i_neg, i_asI, N_int, i_inti, i_intb, decide_true, decide_false, L_asg, i_mul, mul_of hx.p hx.q (by omega), i_ge, c1, sign_of_number_is]
  · rw [if_neg c1]
    by_cases c2 : (d : Int) * x.q * x.q < x.p * x.p
    · rw [if_pos c2]
      simp only [q_wipeR_1, q_wipeR_2, q_asg_1, q_asg_2, q_asg_3, q_asg_4, q_asg_5, q_asg_6, q_asg_7, q_asgR_1, q_ownedArg_1, q_ownedArgs_1, q_ownedArgs_2, q_itemsOf_1, q_itemsOf_2, q_evE_1, q_evE_2, q_evE_3, q_evE_4, q_evE_5, q_evE_6, q_evE_7, q_evE_8, q_evE_9, q_evE_10, q_evE_11, q_evE_12, q_evE_13, q_evE_14, q_evE_15, q_evE_16, q_evE_17, q_evE_18, q_evE_19, q_evE_20, q_evEs_1, q_evEs_2, q_evP_1, q_evP_2, q_evC_1, q_evC_2, q_evI_1, q_evI_2, q_evRet_1, q_evS_1, q_evS_2, q_evS_3, q_evS_4, q_evS_5, q_evS_6, q_evS_7, q_evS_8, q_evS_9, q_evS_10, q_evS_11, q_evS_12, q_evS_13, q_evS_14, q_evS_15, q_evS_16, q_evSs_1, q_evSs_2, q_oa_0, q_rt_0, q_oa_1, q_rt_1, q_oa_2, q_rt_2, q_oa_3, q_rt_3, q_oa_4, q_rt_4, q_oa_5, q_rt_5, q_oa_6, q_rt_6, q_oa_7, q_rt_7, q_oa_8, q_rt_8, q_oa_9, q_rt_9, q_oa_10, q_rt_10, q_oa_11, q_rt_11, q_oa_12, q_rt_12, q_oa_13, q_rt_13, q_oa_14, q_rt_14, q_oa_15, q_rt_15, q_oa_16, q_rt_16, q_oa_17, q_rt_17, q_oa_18, q_rt_18, q_ar_0, q_ar_1, q_ar_2, asI_i, q_ret, q_bind, q_bindn, q_map, q_mapn, q_evT, q_own, startR, List.getElem?_cons_succ, List.getElem?_cons_zero, List.set_cons_succ, List.set_cons_zero, List.map_cons, List.map_nil, List.replicate, List.length_cons, List.length_nil, List.append_eq, List.nil_append, List.cons_append, Bool.and_true, Bool.true_and, Bool.and_false, Bool.false_and, Bool.not_true, Bool.not_false, if_true, if_false, reduceCtorEq, Nat.reduceSub, Nat.reduceAdd, Nat.reduceLeDiff, Bool.false_eq_true, Bool.or_false, Bool.false_or, ite_true, ite_false, lenOk_0, lenOk_1, lenOk_2, lenOk_3, lenOk_4, lenOk_5, lenOk_6, lenOk_7, lenOk_8, i_add, i_sub, i_neg, i_asI, N_int, i_inti, i_intb, decide_true, decide_false, L_asg, i_mul, mul_of hx.p hx.q (by omega), mul_of hx.p hx.p (by omega), mul_of h6 hx.q (by omega), mul_of (nat_mul_lt h6 hx.q) hx.q (by omega), i_ge, i_gt, c1, c2, sign_of_number_is]
    · rw [if_neg c2]
      simp only [q_wipeR_1, q_wipeR_2, q_asg_1, q_asg_2, q_asg_3, q_asg_4, q_asg_5, q_asg_6, q_asg_7, q_asgR_1, q_ownedArg_1, q_ownedArgs_1, q_ownedArgs_2, q_itemsOf_1, q_itemsOf_2, q_evE_1, q_evE_2, q_evE_3, q_evE_4, q_evE_5, q_evE_6, q_evE_7, q_evE_8, q_evE_9, q_evE_10, q_evE_11, q_evE_12, q_evE_13, q_evE_14, q_evE_15, q_evE_16, q_evE_17, q_evE_18, q_evE_19, q_evE_20, q_evEs_1, q_evEs_2, q_evP_1, q_evP_2, q_evC_1, q_evC_2, q_evI_1, q_evI_2, q_evRet_1, q_evS_1, q_evS_2, q_evS_3, q_evS_4, q_evS_5, q_evS_6, q_evS_7, q_evS_8, q_evS_9, q_evS_10, q_evS_11, q_evS_12, q_evS_13, q_evS_14, q_evS_15, q_evS_16, q_evSs_1, q_evSs_2, q_oa_0, q_rt_0, q_oa_1, q_rt_1, q_oa_2, q_rt_2, q_oa_3, q_rt_3, q_oa_4, q_rt_4, q_oa_5, q_rt_5, q_oa_6, q_rt_6, q_oa_7, q_rt_7, q_oa_8, q_rt_8, q_oa_9, q_rt_9, q_oa_10, q_rt_10, q_oa_11, q_rt_11, q_oa_12, q_rt_12, q_oa_13, q_rt_13, q_oa_14, q_rt_14, q_oa_15, q_rt_15, q_oa_16, q_rt_16, q_oa_17, q_rt_17, q_oa_18, q_rt_18, q_ar_0, q_ar_1, q_ar_2, asI_i, q_ret, q_bind, q_bindn, q_map, q_mapn, q_evT, q_own, startR, List.getElem?_cons_succ, List.getElem?_cons_zero, List.set_cons_succ, List.set_cons_zero, List.map_cons, List.map_nil, List.replicate, List.length_cons, List.length_nil, List.append_eq, List.nil_append, List.cons_append, Bool.and_true, Bool.true_and, Bool.and_false, Bool.false_and, Bool.not_true, Bool.not_false, if_true, if_false, reduceCtorEq, Nat.reduceSub, Nat.reduceAdd, Nat.reduceLeDiff, Bool.false_eq_true, Bool.or_false, Bool.false_or, ite_true, ite_false, lenOk_0, lenOk_1, lenOk_2, lenOk_3, lenOk_4, lenOk_5, lenOk_6, lenOk_7, lenOk_8, i_add, i_sub, i_neg, i_asI, N_int, i_inti, i_intb, decide_true, decide_false, L_asg, i_mul, mul_of hx.p hx.q (by omega), mul_of hx.p hx.p (by omega), mul_of h6 hx.q (by omega), mul_of (nat_mul_lt h6 hx.q) hx.q (by omega), i_ge, i_gt, c1, c2, sign_of_number_is]
theorem compare_is [NSq d] {x y : Q d} {k : Nat} (hd : d < 64) (hx : Sz k x) (hy : Sz k y) (hk : k ≤ 1900) : f_compare [.int (d : Int), L x, L y] = some (false, .int (sgn (x - y))) := by
  have e1 := minus_is hx hy (by omega)
  have e2 := sign_of_is hd (minus_sz hx hy) (by omega)
  unfold f_compare evDef ir_compare
  simp only [q_wipeR_1, q_wipeR_2, q_asg_1, q_asg_2, q_asg_3, q_asg_4, q_asg_5, q_asg_6, q_asg_7, q_asgR_1, q_ownedArg_1, q_ownedArgs_1, q_ownedArgs_2, q_itemsOf_1, q_itemsOf_2, q_evE_1, q_evE_2, q_evE_3, q_evE_4, q_evE_5, q_evE_6, q_evE_7, q_evE_8, q_evE_9, q_evE_10, q_evE_11, q_evE_12, q_evE_13, q_evE_14, q_evE_15, q_evE_16, q_evE_17, q_evE_18, q_evE_19, q_evE_20, q_evEs_1, q_evEs_2, q_evP_1, q_evP_2, q_evC_1, q_evC_2, q_evI_1, q_evI_2, q_evRet_1, q_evS_1, q_evS_2, q_evS_3, q_evS_4, q_evS_5, q_evS_6, q_evS_7, q_evS_8, q_evS_9, q_evS_10, q_evS_11, q_evS_12, q_evS_13, q_evS_14, q_evS_15, q_evS_16, q_evSs_1, q_evSs_2, q_oa_0, q_rt_0, q_oa_1, q_rt_1, q_oa_2, q_rt_2, q_oa_3, q_rt_3, q_oa_4, q_rt_4, q_oa_5, q_rt_5, q_oa_6, q_rt_6, q_oa_7, q_rt_7, q_oa_8, q_rt_8, q_oa_9, q_rt_9, q_oa_10, q_rt_10, q_oa_11, q_rt_11, q_oa_12, q_rt_12, q_oa_13, q_rt_13, q_oa_14, q_rt_14, q_oa_15, q_rt_15, q_oa_16, q_rt_16, q_oa_17, q_rt_17, q_oa_18, q_rt_18, q_ar_0, q_ar_1, q_ar_2, asI_i, q_ret, q_bind, q_bindn, q_map, q_mapn, q_evT, q_own, startR, List.getElem?_cons_succ, List.getElem?_cons_zero, List.set_cons_succ, List.set_cons_zero, List.map_cons, List.map_nil, List.replicate, List.length_cons, List.length_nil, List.append_eq, List.nil_append, List.cons_append, Bool.and_true, Bool.true_and, Bool.and_false, Bool.false_and, Bool.not_true, Bool.not_false, if_true, if_false, reduceCtorEq, Nat.reduceSub, Nat.reduceAdd, Nat.reduceLeDiff, Bool.false_eq_true, Bool.or_false, Bool.false_or, ite_true, ite_false, lenOk_0, lenOk_1, lenOk_2, lenOk_3, lenOk_4, lenOk_5, lenOk_6, lenOk_7, lenOk_8, i_add, i_sub, i_neg, i_asI, N_int, i_inti, i_intb, decide_true, decide_false, e1, e2]
theorem sgn_m1 [NSq d] (x y : Q d) : decide (sgn (x - y) = -1) = decide (x < y) := by
  rw [decide_eq_decide]
  rcases sgn_cases (x - y) with ⟨h, e⟩ | ⟨h, e⟩ | ⟨h, e⟩ <;> rw [e]
  · exact ⟨fun h => absurd h (by decide), fun g => absurd g (by grind)⟩
  · exact ⟨fun h => absurd h (by decide), fun g => absurd g (by grind)⟩
  · exact ⟨fun _ => by grind, fun _ => rfl⟩
theorem sgn_p1 [NSq d] (x y : Q d) : decide (sgn (x - y) = 1) = decide (y < x) := by
  rw [decide_eq_decide]
  rcases sgn_cases (x - y) with ⟨h, e⟩ | ⟨h, e⟩ | ⟨h, e⟩ <;> rw [e]
  · exact ⟨fun _ => by grind, fun _ => rfl⟩
  · exact ⟨fun h => absurd h (by decide), fun g => absurd g (by grind)⟩
  · exact ⟨fun h => absurd h (by decide), fun g => absurd g (by grind)⟩
theorem sgn_z [NSq d] (x y : Q d) : decide (sgn (x - y) = 0) = decide (x = y) := by
  rw [decide_eq_decide]
  rcases sgn_cases (x - y) with ⟨h, e⟩ | ⟨h, e⟩ | ⟨h, e⟩ <;> rw [e]
  · exact ⟨fun h => absurd h (by decide), fun g => absurd g (by grind)⟩
  · exact ⟨fun _ => by grind, fun _ => rfl⟩
  · exact ⟨fun h => absurd h (by decide), fun g => absurd g (by grind)⟩
end K83

set_option Elab.async false
set_option linter.all false
set_option maxRecDepth 100000
set_option maxHeartbeats 4000000
namespace K83
open PySem L2 PV Qu
variable {d : Nat}
/-! ### tiles: splits, wheels, order -/
abbrev Tl (d : Nat) := Q d × Q d × Q d × Q d
def encTl (t : Tl d) : PyData := .tuple [L t.1, L t.2.1, L t.2.2.1, L t.2.2.2]
def SzT (k : Nat) (t : Tl d) : Prop := Sz k t.1 ∧ Sz k t.2.1 ∧ Sz k t.2.2.1 ∧ Sz k t.2.2.2
theorem asgT (a b c f : G) (t : Tl d) (ρ : Sl) : asg (.fou a b c f) (encTl t) ρ = (asg a (L t.1) ρ).bind fun ρ1 => (asg b (L t.2.1) ρ1).bind fun ρ2 => (asg c (L t.2.2.1) ρ2).bind fun ρ3 => asg f (L t.2.2.2) ρ3 := Eq.trans rfl (Eq.refl _)
theorem ixT0 (t : Tl d) : evIx (encTl t) (.int 0) = some (false, L t.1) := Eq.trans rfl (Eq.refl _)
theorem ixT1 (t : Tl d) : evIx (encTl t) (.int 1) = some (false, L t.2.1) := Eq.trans rfl (Eq.refl _)
theorem ixT2 (t : Tl d) : evIx (encTl t) (.int 2) = some (false, L t.2.2.1) := Eq.trans rfl (Eq.refl _)
theorem ixT3 (t : Tl d) : evIx (encTl t) (.int 3) = some (false, L t.2.2.2) := Eq.trans rfl (Eq.refl _)
theorem hd_Tl (t : Tl d) : Hd 2 (encTl t) := hd_tuple (hd_cons (hd_L _) (hd_cons (hd_L _) (hd_cons (hd_L _) (hd_cons (hd_L _) hd_nil))))
open Classical in
/-- by y, then by x -/
noncomputable def befT [NSq d] (t u : Tl d) : Bool := if t.2.1 = u.2.1 then decide (t.1 < u.1) else decide (t.2.1 < u.2.1)
open Classical in
theorem before_is [NSq d] {t u : Tl d} {k : Nat} (hd : d < 64) (ht : SzT k t) (hu : SzT k u) (hk : k ≤ 3000) : f__law_before [.int (d : Int), encTl t, encTl u] = some (false, .bool (befT t u)) := by
  have e1 := law_less_is hd ht.1 hu.1 (by omega)
  have e2 := law_less_is hd ht.2.1 hu.2.1 (by omega)
  unfold f__law_before evDef ir__law_before befT
  simp only [q_wipeR_1, q_wipeR_2, q_asg_1, q_asg_2, q_asg_3, q_asg_4, q_asg_5, q_asg_6, q_asg_7, q_asgR_1, q_ownedArg_1, q_ownedArgs_1, q_ownedArgs_2, q_itemsOf_1, q_itemsOf_2, q_evE_1, q_evE_2, q_evE_3, q_evE_4, q_evE_5, q_evE_6, q_evE_7, q_evE_8, q_evE_9, q_evE_10, q_evE_11, q_evE_12, q_evE_13, q_evE_14, q_evE_15, q_evE_16, q_evE_17, q_evE_18, q_evE_19, q_evE_20, q_evEs_1, q_evEs_2, q_evP_1, q_evP_2, q_evC_1, q_evC_2, q_evI_1, q_evI_2, q_evRet_1, q_evS_1, q_evS_2, q_evS_3, q_evS_4, q_evS_5, q_evS_6, q_evS_7, q_evS_8, q_evS_9, q_evS_10, q_evS_11, q_evS_12, q_evS_13, q_evS_14, q_evS_15, q_evS_16, q_evSs_1, q_evSs_2, q_oa_0, q_rt_0, q_oa_1, q_rt_1, q_oa_2, q_rt_2, q_oa_3, q_rt_3, q_oa_4, q_rt_4, q_oa_5, q_rt_5, q_oa_6, q_rt_6, q_oa_7, q_rt_7, q_oa_8, q_rt_8, q_oa_9, q_rt_9, q_oa_10, q_rt_10, q_oa_11, q_rt_11, q_oa_12, q_rt_12, q_oa_13, q_rt_13, q_oa_14, q_rt_14, q_oa_15, q_rt_15, q_oa_16, q_rt_16, q_oa_17, q_rt_17, q_oa_18, q_rt_18, q_ar_0, q_ar_1, q_ar_2, asI_i, q_ret, q_bind, q_bindn, q_map, q_mapn, q_evT, q_own, startR, List.getElem?_cons_succ, List.getElem?_cons_zero, List.set_cons_succ, List.set_cons_zero, List.map_cons, List.map_nil, List.replicate, List.length_cons, List.length_nil, List.append_eq, List.nil_append, List.cons_append, Bool.and_true, Bool.true_and, Bool.and_false, Bool.false_and, Bool.not_true, Bool.not_false, if_true, if_false, reduceCtorEq, Nat.reduceSub, Nat.reduceAdd, Nat.reduceLeDiff, Bool.false_eq_true, Bool.or_false, Bool.false_or, ite_true, ite_false, lenOk_0, lenOk_1, lenOk_2, lenOk_3, lenOk_4, lenOk_5, lenOk_6, lenOk_7, lenOk_8, i_add, i_sub, i_neg, i_asI, N_int, i_inti, i_intb, decide_true, decide_false, ixT0, ixT1, L_ne, e1, e2]
  by_cases h : t.2.1 = u.2.1
  · simp only [h, decide_true, Bool.not_true, if_true, q_wipeR_1, q_wipeR_2, q_asg_1, q_asg_2, q_asg_3, q_asg_4, q_asg_5, q_asg_6, q_asg_7, q_asgR_1, q_ownedArg_1, q_ownedArgs_1, q_ownedArgs_2, q_itemsOf_1, q_itemsOf_2, q_evE_1, q_evE_2, q_evE_3, q_evE_4, q_evE_5, q_evE_6, q_evE_7, q_evE_8, q_evE_9, q_evE_10, q_evE_11, q_evE_12, q_evE_13, q_evE_14, q_evE_15, q_evE_16, q_evE_17, q_evE_18, q_evE_19, q_evE_20, q_evEs_1, q_evEs_2, q_evP_1, q_evP_2, q_evC_1, q_evC_2, q_evI_1, q_evI_2, q_evRet_1, q_evS_1, q_evS_2, q_evS_3, q_evS_4, q_evS_5, q_evS_6, q_evS_7, q_evS_8, q_evS_9, q_evS_10, q_evS_11, q_evS_12, q_evS_13, q_evS_14, q_evS_15, q_evS_16, q_evSs_1, q_evSs_2, q_oa_0, q_rt_0, q_oa_1, q_rt_1, q_oa_2, q_rt_2, q_oa_3, q_rt_3, q_oa_4, q_rt_4, q_oa_5, q_rt_5, q_oa_6, q_rt_6, q_oa_7, q_rt_7, q_oa_8, q_rt_8, q_oa_9, q_rt_9, q_oa_10, q_rt_10, q_oa_11, q_rt_11, q_oa_12, q_rt_12, q_oa_13, q_rt_13, q_oa_14, q_rt_14, q_oa_15, q_rt_15, q_oa_16, q_rt_16, q_oa_17, q_rt_17, q_oa_18, q_rt_18, q_ar_0, q_ar_1, q_ar_2, asI_i, q_ret, q_bind, q_bindn, q_map, q_mapn, q_evT, q_own, startR, List.getElem?_cons_succ, List.getElem?_cons_zero, List.set_cons_succ, List.set_cons_zero, List.map_cons, List.map_nil, List.replicate, List.length_cons, List.length_nil, List.append_eq, List.nil_append, List.cons_append, Bool.and_true, Bool.true_and, Bool.and_false, Bool.false_and, Bool.not_true, Bool.not_false, if_true, if_false, reduceCtorEq, Nat.reduceSub, Nat.reduceAdd, Nat.reduceLeDiff, Bool.false_eq_true, Bool.or_false, Bool.false_or, ite_true, ite_false, lenOk_0, lenOk_1, lenOk_2, lenOk_3, lenOk_4, lenOk_5, lenOk_6, lenOk_7, lenOk_8, i_add, i_sub, i_neg, i_asI, N_int, i_inti, i_intb, decide_true, decide_false, ixT0, e1]
  · simp only [decide_eq_false h, Bool.not_false, if_neg h, q_wipeR_1, q_wipeR_2, q_asg_1, q_asg_2, q_asg_3, q_asg_4, q_asg_5, q_asg_6, q_asg_7, q_asgR_1, q_ownedArg_1, q_ownedArgs_1, q_ownedArgs_2, q_itemsOf_1, q_itemsOf_2, q_evE_1, q_evE_2, q_evE_3, q_evE_4, q_evE_5, q_evE_6, q_evE_7, q_evE_8, q_evE_9, q_evE_10, q_evE_11, q_evE_12, q_evE_13, q_evE_14, q_evE_15, q_evE_16, q_evE_17, q_evE_18, q_evE_19, q_evE_20, q_evEs_1, q_evEs_2, q_evP_1, q_evP_2, q_evC_1, q_evC_2, q_evI_1, q_evI_2, q_evRet_1, q_evS_1, q_evS_2, q_evS_3, q_evS_4, q_evS_5, q_evS_6, q_evS_7, q_evS_8, q_evS_9, q_evS_10, q_evS_11, q_evS_12, q_evS_13, q_evS_14, q_evS_15, q_evS_16, q_evSs_1, q_evSs_2, q_oa_0, q_rt_0, q_oa_1, q_rt_1, q_oa_2, q_rt_2, q_oa_3, q_rt_3, q_oa_4, q_rt_4, q_oa_5, q_rt_5, q_oa_6, q_rt_6, q_oa_7, q_rt_7, q_oa_8, q_rt_8, q_oa_9, q_rt_9, q_oa_10, q_rt_10, q_oa_11, q_rt_11, q_oa_12, q_rt_12, q_oa_13, q_rt_13, q_oa_14, q_rt_14, q_oa_15, q_rt_15, q_oa_16, q_rt_16, q_oa_17, q_rt_17, q_oa_18, q_rt_18, q_ar_0, q_ar_1, q_ar_2, asI_i, q_ret, q_bind, q_bindn, q_map, q_mapn, q_evT, q_own, startR, List.getElem?_cons_succ, List.getElem?_cons_zero, List.set_cons_succ, List.set_cons_zero, List.map_cons, List.map_nil, List.replicate, List.length_cons, List.length_nil, List.append_eq, List.nil_append, List.cons_append, Bool.and_true, Bool.true_and, Bool.and_false, Bool.false_and, Bool.not_true, Bool.not_false, if_true, if_false, reduceCtorEq, Nat.reduceSub, Nat.reduceAdd, Nat.reduceLeDiff, Bool.false_eq_true, Bool.or_false, Bool.false_or, ite_true, ite_false, lenOk_0, lenOk_1, lenOk_2, lenOk_3, lenOk_4, lenOk_5, lenOk_6, lenOk_7, lenOk_8, i_add, i_sub, i_neg, i_asI, N_int, i_inti, i_intb, decide_true, decide_false, ixT1, e2]
/-- into a list, behind all that do not come after -/
noncomputable def insT [NSq d] (F : List (Tl d)) (t : Tl d) : List (Tl d) := F.take (F.filter fun u => !befT t u).length ++ [t] ++ F.drop (F.filter fun u => !befT t u).length
noncomputable def orderT [NSq d] : List (Tl d) → List (Tl d) → List (Tl d)
  | F, [] => F
  | F, t :: l => orderT (insT F t) l
theorem insT_perm [NSq d] (F : List (Tl d)) (t : Tl d) : (insT F t).Perm (t :: F) := by
  unfold insT
  generalize (F.filter fun u => !befT t u).length = n
  have h : (F.take n ++ [t] ++ F.drop n).Perm ([t] ++ F.take n ++ F.drop n) := List.Perm.append_right _ List.perm_append_comm
  have e : [t] ++ F.take n ++ F.drop n = t :: F := by
    rw [List.append_assoc, List.take_append_drop]; rfl
  rw [e] at h
  exact h
theorem orderT_perm [NSq d] : ∀ (l F : List (Tl d)), (orderT F l).Perm (F ++ l)
  | [], F => by rw [List.append_nil]; exact List.Perm.refl _
  | t :: l, F => by
    show (orderT (insT F t) l).Perm (F ++ t :: l)
    refine (orderT_perm l (insT F t)).trans ?_
    refine ((insT_perm F t).append_right l).trans ?_
    exact List.perm_middle.symm
theorem filterMap_filter {α : Type} (p : α → Bool) : ∀ l : List α, l.filterMap (fun x => if p x then some x else none) = l.filter p
  | [] => rfl
  | x :: l => by
    rw [List.filter_cons]
    cases h : p x with
    | true => rw [List.filterMap_cons_some (b := x) (by rw [h]; rfl), if_pos rfl, filterMap_filter p l]
    | false => rw [List.filterMap_cons_none (by rw [h]; rfl), if_neg Bool.false_ne_true, filterMap_filter p l]
theorem in_order_comp [NSq d] {k : Nat} {s1 j4 : Option R} {t : Tl d} {F : List (Tl d)} (b : Bool) (hd : d < 64) (hk : k ≤ 3000) (ht : SzT k t) (hF : ∀ t ∈ F, SzT k t) : evE ic__law_in_order_1 b [sI (d : Int), s1, some (true, .list (F.map encTl)), some (false, encTl t), j4, none] = some (true, .list ((F.filter fun u => !befT t u).map encTl)) := by
  have hi : itemsOf (.list (F.map encTl)) = some (F.map encTl) := rfl
  unfold ic__law_in_order_1
  simp only [q_wipeR_1, q_wipeR_2, q_asg_1, q_asg_2, q_asg_3, q_asg_4, q_asg_5, q_asg_6, q_asg_7, q_asgR_1, q_ownedArg_1, q_ownedArgs_1, q_ownedArgs_2, q_itemsOf_1, q_itemsOf_2, q_evE_1, q_evE_2, q_evE_3, q_evE_4, q_evE_5, q_evE_6, q_evE_7, q_evE_8, q_evE_9, q_evE_10, q_evE_11, q_evE_12, q_evE_13, q_evE_14, q_evE_15, q_evE_16, q_evE_17, q_evE_18, q_evE_19, q_evE_20, q_evEs_1, q_evEs_2, q_evP_1, q_evP_2, q_evC_1, q_evC_2, q_evI_1, q_evI_2, q_evRet_1, q_evS_1, q_evS_2, q_evS_3, q_evS_4, q_evS_5, q_evS_6, q_evS_7, q_evS_8, q_evS_9, q_evS_10, q_evS_11, q_evS_12, q_evS_13, q_evS_14, q_evS_15, q_evS_16, q_evSs_1, q_evSs_2, q_oa_0, q_rt_0, q_oa_1, q_rt_1, q_oa_2, q_rt_2, q_oa_3, q_rt_3, q_oa_4, q_rt_4, q_oa_5, q_rt_5, q_oa_6, q_rt_6, q_oa_7, q_rt_7, q_oa_8, q_rt_8, q_oa_9, q_rt_9, q_oa_10, q_rt_10, q_oa_11, q_rt_11, q_oa_12, q_rt_12, q_oa_13, q_rt_13, q_oa_14, q_rt_14, q_oa_15, q_rt_15, q_oa_16, q_rt_16, q_oa_17, q_rt_17, q_oa_18, q_rt_18, q_ar_0, q_ar_1, q_ar_2, asI_i, q_ret, q_bind, q_bindn, q_map, q_mapn, q_evT, q_own, startR, List.getElem?_cons_succ, List.getElem?_cons_zero, List.set_cons_succ, List.set_cons_zero, List.map_cons, List.map_nil, List.replicate, List.length_cons, List.length_nil, List.append_eq, List.nil_append, List.cons_append, Bool.and_true, Bool.true_and, Bool.and_false, Bool.false_and, Bool.not_true, Bool.not_false, if_true, if_false, reduceCtorEq, Nat.reduceSub, Nat.reduceAdd, Nat.reduceLeDiff, Bool.false_eq_true, Bool.or_false, Bool.false_or, ite_true, ite_false, lenOk_0, lenOk_1, lenOk_2, lenOk_3, lenOk_4, lenOk_5, lenOk_6, lenOk_7, lenOk_8, i_add, i_sub, i_neg, i_asI, N_int, i_inti, i_intb, decide_true, decide_false, hi]
  rw [compGo_map (en2 := encTl) (fun u => if (!befT t u) = true then some u else none)]
  · rw [filterMap_filter]
    rfl
  · intro u hu
    simp only [q_wipeR_1, q_wipeR_2, q_asg_1, q_asg_2, q_asg_3, q_asg_4, q_asg_5, q_asg_6, q_asg_7, q_asgR_1, q_ownedArg_1, q_ownedArgs_1, q_ownedArgs_2, q_itemsOf_1, q_itemsOf_2, q_evE_1, q_evE_2, q_evE_3, q_evE_4, q_evE_5, q_evE_6, q_evE_7, q_evE_8, q_evE_9, q_evE_10, q_evE_11, q_evE_12, q_evE_13, q_evE_14, q_evE_15, q_evE_16, q_evE_17, q_evE_18, q_evE_19, q_evE_20, q_evEs_1, q_evEs_2, q_evP_1, q_evP_2, q_evC_1, q_evC_2, q_evI_1, q_evI_2, q_evRet_1, q_evS_1, q_evS_2, q_evS_3, q_evS_4, q_evS_5, q_evS_6, q_evS_7, q_evS_8, q_evS_9, q_evS_10, q_evS_11, q_evS_12, q_evS_13, q_evS_14, q_evS_15, q_evS_16, q_evSs_1, q_evSs_2, q_oa_0, q_rt_0, q_oa_1, q_rt_1, q_oa_2, q_rt_2, q_oa_3, q_rt_3, q_oa_4, q_rt_4, q_oa_5, q_rt_5, q_oa_6, q_rt_6, q_oa_7, q_rt_7, q_oa_8, q_rt_8, q_oa_9, q_rt_9, q_oa_10, q_rt_10, q_oa_11, q_rt_11, q_oa_12, q_rt_12, q_oa_13, q_rt_13, q_oa_14, q_rt_14, q_oa_15, q_rt_15, q_oa_16, q_rt_16, q_oa_17, q_rt_17, q_oa_18, q_rt_18, q_ar_0, q_ar_1, q_ar_2, asI_i, q_ret, q_bind, q_bindn, q_map, q_mapn, q_evT, q_own, startR, List.getElem?_cons_succ, List.getElem?_cons_zero, List.set_cons_succ, List.set_cons_zero, List.map_cons, List.map_nil, List.replicate, List.length_cons, List.length_nil, List.append_eq, List.nil_append, List.cons_append, Bool.and_true, Bool.true_and, Bool.and_false, Bool.false_and, Bool.not_true, Bool.not_false, if_true, if_false, reduceCtorEq, Nat.reduceSub, Nat.reduceAdd, Nat.reduceLeDiff, Bool.false_eq_true, Bool.or_false, Bool.false_or, ite_true, ite_false, lenOk_0, lenOk_1, lenOk_2, lenOk_3, lenOk_4, lenOk_5, lenOk_6, lenOk_7, lenOk_8, i_add, i_sub, i_neg, i_asI, N_int, i_inti, i_intb, decide_true, decide_false, before_is hd ht (hF u hu) hk]
    cases befT t u <;> simp only [q_wipeR_1, q_wipeR_2, q_asg_1, q_asg_2, q_asg_3, q_asg_4, q_asg_5, q_asg_6, q_asg_7, q_asgR_1, q_ownedArg_1, q_ownedArgs_1, q_ownedArgs_2, q_itemsOf_1, q_itemsOf_2, q_evE_1, q_evE_2, q_evE_3, q_evE_4, q_evE_5, q_evE_6, q_evE_7, q_evE_8, q_evE_9, q_evE_10, q_evE_11, q_evE_12, q_evE_13, q_evE_14, q_evE_15, q_evE_16, q_evE_17, q_evE_18, q_evE_19, q_evE_20, q_evEs_1, q_evEs_2, q_evP_1, q_evP_2, q_evC_1, q_evC_2, q_evI_1, q_evI_2, q_evRet_1, q_evS_1, q_evS_2, q_evS_3, q_evS_4, q_evS_5, q_evS_6, q_evS_7, q_evS_8, q_evS_9, q_evS_10, q_evS_11, q_evS_12, q_evS_13, q_evS_14, q_evS_15, q_evS_16, q_evSs_1, q_evSs_2, q_oa_0, q_rt_0, q_oa_1, q_rt_1, q_oa_2, q_rt_2, q_oa_3, q_rt_3, q_oa_4, q_rt_4, q_oa_5, q_rt_5, q_oa_6, q_rt_6, q_oa_7, q_rt_7, q_oa_8, q_rt_8, q_oa_9, q_rt_9, q_oa_10, q_rt_10, q_oa_11, q_rt_11, q_oa_12, q_rt_12, q_oa_13, q_rt_13, q_oa_14, q_rt_14, q_oa_15, q_rt_15, q_oa_16, q_rt_16, q_oa_17, q_rt_17, q_oa_18, q_rt_18, q_ar_0, q_ar_1, q_ar_2, asI_i, q_ret, q_bind, q_bindn, q_map, q_mapn, q_evT, q_own, startR, List.getElem?_cons_succ, List.getElem?_cons_zero, List.set_cons_succ, List.set_cons_zero, List.map_cons, List.map_nil, List.replicate, List.length_cons, List.length_nil, List.append_eq, List.nil_append, List.cons_append, Bool.and_true, Bool.true_and, Bool.and_false, Bool.false_and, Bool.not_true, Bool.not_false, if_true, if_false, reduceCtorEq, Nat.reduceSub, Nat.reduceAdd, Nat.reduceLeDiff, Bool.false_eq_true, Bool.or_false, Bool.false_or, ite_true, ite_false, lenOk_0, lenOk_1, lenOk_2, lenOk_3, lenOk_4, lenOk_5, lenOk_6, lenOk_7, lenOk_8, i_add, i_sub, i_neg, i_asI, N_int, i_inti, i_intb, decide_true, decide_false, Bool.not_true, Bool.not_false, if_true, Bool.false_eq_true, if_false]
theorem order_loop [NSq d] {k : Nat} {all : PyData} (hd : d < 64) (hk : k ≤ 3000) : ∀ (l F : List (Tl d)) (j3 j4 : Option R), (∀ t ∈ F, SzT k t) → (∀ t ∈ l, SzT k t) → F.length + l.length ≤ 10000 →
    ∃ j3' j4', forGo (.nm 3) (blk FUEL ib__law_in_order_2) (l.map encTl) [sI (d : Int), some (false, all), some (true, .list (F.map encTl)), j3, j4, none] = some (.nx [sI (d : Int), some (false, all), some (true, .list ((orderT F l).map encTl)), j3', j4', none])
  | [], F, j3, j4, _, _, _ => ⟨j3, j4, rfl⟩
  | t :: l, F, j3, j4, hF, hl, hn => by
    have ht := hl t List.mem_cons_self
    have hlen : ((F.filter fun u => !befT t u).map encTl).length = (F.filter fun u => !befT t u).length := List.length_map ..
    have hle : (F.filter fun u => !befT t u).length ≤ F.length := List.length_filter_le _ _
    have hb : evBI .len [.list ((F.filter fun u => !befT t u).map encTl)] = some (false, .int ((F.filter fun u => !befT t u).length : Nat)) := by
      show some (false, PyData.int _) = _
      rw [hlen]
    obtain ⟨j3', j4', ih⟩ := order_loop hd hk l (insT F t) (some (false, encTl t)) (some (false, .int ((F.filter fun u => !befT t u).length : Nat))) (fun u hu => by
      rcases List.mem_cons.mp ((insT_perm F t).mem_iff.mp hu) with rfl | hu
      · exact ht
      · exact hF u hu) (fun u hu => hl u (List.mem_cons_of_mem _ hu)) (by rw [(insT_perm F t).length_eq]; simp only [List.length_cons] at hn ⊢; omega)
    refine ⟨j3', j4', ?_⟩
    rw [List.map_cons]
    refine (fr_nx (ρ1 := [sI (d : Int), some (false, all), some (true, .list (F.map encTl)), some (false, encTl t), j4, none]) rfl ?_).trans ih
    have d1 : decide (0 ≤ (((F.filter fun u => !befT t u).length : Nat) : Int)) = true := decide_eq_true (by omega)
    have d2 : decide ((((F.filter fun u => !befT t u).length : Nat) : Int) < 1000000000) = true := decide_eq_true (by simp only [List.length_cons] at hn; omega)
    have d3 : lenOk ((F.map encTl).length + 1) = true := lenOk_of (by rw [List.length_map]; simp only [List.length_cons] at hn; omega)
    unfold blk ib__law_in_order_2
    simp only [q_wipeR_1, q_wipeR_2, q_asg_1, q_asg_2, q_asg_3, q_asg_4, q_asg_5, q_asg_6, q_asg_7, q_asgR_1, q_ownedArg_1, q_ownedArgs_1, q_ownedArgs_2, q_itemsOf_1, q_itemsOf_2, q_evE_1, q_evE_2, q_evE_3, q_evE_4, q_evE_5, q_evE_6, q_evE_7, q_evE_8, q_evE_9, q_evE_10, q_evE_11, q_evE_12, q_evE_13, q_evE_14, q_evE_15, q_evE_16, q_evE_17, q_evE_18, q_evE_19, q_evE_20, q_evEs_1, q_evEs_2, q_evP_1, q_evP_2, q_evC_1, q_evC_2, q_evI_1, q_evI_2, q_evRet_1, q_evS_1, q_evS_2, q_evS_3, q_evS_4, q_evS_5, q_evS_6, q_evS_7, q_evS_8, q_evS_9, q_evS_10, q_evS_11, q_evS_12, q_evS_13, q_evS_14, q_evS_15, q_evS_16, q_evSs_1, q_evSs_2, q_oa_0, q_rt_0, q_oa_1, q_rt_1, q_oa_2, q_rt_2, q_oa_3, q_rt_3, q_oa_4, q_rt_4, q_oa_5, q_rt_5, q_oa_6, q_rt_6, q_oa_7, q_rt_7, q_oa_8, q_rt_8, q_oa_9, q_rt_9, q_oa_10, q_rt_10, q_oa_11, q_rt_11, q_oa_12, q_rt_12, q_oa_13, q_rt_13, q_oa_14, q_rt_14, q_oa_15, q_rt_15, q_oa_16, q_rt_16, q_oa_17, q_rt_17, q_oa_18, q_rt_18, q_ar_0, q_ar_1, q_ar_2, asI_i, q_ret, q_bind, q_bindn, q_map, q_mapn, q_evT, q_own, startR, List.getElem?_cons_succ, List.getElem?_cons_zero, List.set_cons_succ, List.set_cons_zero, List.map_cons, List.map_nil, List.replicate, List.length_cons, List.length_nil, List.append_eq, List.nil_append, List.cons_append, Bool.and_true, Bool.true_and, Bool.and_false, Bool.false_and, Bool.not_true, Bool.not_false, if_true, if_false, reduceCtorEq, Nat.reduceSub, Nat.reduceAdd, Nat.reduceLeDiff, Bool.false_eq_true, Bool.or_false, Bool.false_or, ite_true, ite_false, lenOk_0, lenOk_1, lenOk_2, lenOk_3, lenOk_4, lenOk_5, lenOk_6, lenOk_7, lenOk_8, i_add, i_sub, i_neg, i_asI, N_int, i_inti, i_intb, decide_true, decide_false, in_order_comp _ hd hk ht hF, hb, d1, d2, d3, Int.toNat_natCast]
    unfold insT
    rw [List.map_append, List.map_append, List.map_take, List.map_drop]
    rfl
theorem in_order_is [NSq d] {k : Nat} {l : List (Tl d)} (hd : d < 64) (hk : k ≤ 3000) (hl : ∀ t ∈ l, SzT k t) (hn : l.length ≤ 10000) : f__law_in_order [.int (d : Int), .list (l.map encTl)] = some (true, .list ((orderT [] l).map encTl)) := by
  obtain ⟨j3, j4, e⟩ := order_loop (all := .list (l.map encTl)) hd hk l [] none none (fun _ h => nomatch h) hl (by simpa using hn)
  have hi : itemsOf (.list (l.map encTl)) = some (l.map encTl) := rfl
  rw [List.map_nil] at e
  unfold f__law_in_order evDef ir__law_in_order
  simp only [q_wipeR_1, q_wipeR_2, q_asg_1, q_asg_2, q_asg_3, q_asg_4, q_asg_5, q_asg_6, q_asg_7, q_asgR_1, q_ownedArg_1, q_ownedArgs_1, q_ownedArgs_2, q_itemsOf_1, q_itemsOf_2, q_evE_1, q_evE_2, q_evE_3, q_evE_4, q_evE_5, q_evE_6, q_evE_7, q_evE_8, q_evE_9, q_evE_10, q_evE_11, q_evE_12, q_evE_13, q_evE_14, q_evE_15, q_evE_16, q_evE_17, q_evE_18, q_evE_19, q_evE_20, q_evEs_1, q_evEs_2, q_evP_1, q_evP_2, q_evC_1, q_evC_2, q_evI_1, q_evI_2, q_evRet_1, q_evS_1, q_evS_2, q_evS_3, q_evS_4, q_evS_5, q_evS_6, q_evS_7, q_evS_8, q_evS_9, q_evS_10, q_evS_11, q_evS_12, q_evS_13, q_evS_14, q_evS_15, q_evS_16, q_evSs_1, q_evSs_2, q_oa_0, q_rt_0, q_oa_1, q_rt_1, q_oa_2, q_rt_2, q_oa_3, q_rt_3, q_oa_4, q_rt_4, q_oa_5, q_rt_5, q_oa_6, q_rt_6, q_oa_7, q_rt_7, q_oa_8, q_rt_8, q_oa_9, q_rt_9, q_oa_10, q_rt_10, q_oa_11, q_rt_11, q_oa_12, q_rt_12, q_oa_13, q_rt_13, q_oa_14, q_rt_14, q_oa_15, q_rt_15, q_oa_16, q_rt_16, q_oa_17, q_rt_17, q_oa_18, q_rt_18, q_ar_0, q_ar_1, q_ar_2, asI_i, q_ret, q_bind, q_bindn, q_map, q_mapn, q_evT, q_own, startR, List.getElem?_cons_succ, List.getElem?_cons_zero, List.set_cons_succ, List.set_cons_zero, List.map_cons, List.map_nil, List.replicate, List.length_cons, List.length_nil, List.append_eq, List.nil_append, List.cons_append, Bool.and_true, Bool.true_and, Bool.and_false, Bool.false_and, Bool.not_true, Bool.not_false, if_true, if_false, reduceCtorEq, Nat.reduceSub, Nat.reduceAdd, Nat.reduceLeDiff, Bool.false_eq_true, Bool.or_false, Bool.false_or, ite_true, ite_false, lenOk_0, lenOk_1, lenOk_2, lenOk_3, lenOk_4, lenOk_5, lenOk_6, lenOk_7, lenOk_8, i_add, i_sub, i_neg, i_asI, N_int, i_inti, i_intb, decide_true, decide_false, hi]
  rw [e]
  simp only [q_wipeR_1, q_wipeR_2, q_asg_1, q_asg_2, q_asg_3, q_asg_4, q_asg_5, q_asg_6, q_asg_7, q_asgR_1, q_ownedArg_1, q_ownedArgs_1, q_ownedArgs_2, q_itemsOf_1, q_itemsOf_2, q_evE_1, q_evE_2, q_evE_3, q_evE_4, q_evE_5, q_evE_6, q_evE_7, q_evE_8, q_evE_9, q_evE_10, q_evE_11, q_evE_12, q_evE_13, q_evE_14, q_evE_15, q_evE_16, q_evE_17, q_evE_18, q_evE_19, q_evE_20, q_evEs_1, q_evEs_2, q_evP_1, q_evP_2, q_evC_1, q_evC_2, q_evI_1, q_evI_2, q_evRet_1, q_evS_1, q_evS_2, q_evS_3, q_evS_4, q_evS_5, q_evS_6, q_evS_7, q_evS_8, q_evS_9, q_evS_10, q_evS_11, q_evS_12, q_evS_13, q_evS_14, q_evS_15, q_evS_16, q_evSs_1, q_evSs_2, q_oa_0, q_rt_0, q_oa_1, q_rt_1, q_oa_2, q_rt_2, q_oa_3, q_rt_3, q_oa_4, q_rt_4, q_oa_5, q_rt_5, q_oa_6, q_rt_6, q_oa_7, q_rt_7, q_oa_8, q_rt_8, q_oa_9, q_rt_9, q_oa_10, q_rt_10, q_oa_11, q_rt_11, q_oa_12, q_rt_12, q_oa_13, q_rt_13, q_oa_14, q_rt_14, q_oa_15, q_rt_15, q_oa_16, q_rt_16, q_oa_17, q_rt_17, q_oa_18, q_rt_18, q_ar_0, q_ar_1, q_ar_2, asI_i, q_ret, q_bind, q_bindn, q_map, q_mapn, q_evT, q_own, startR, List.getElem?_cons_succ, List.getElem?_cons_zero, List.set_cons_succ, List.set_cons_zero, List.map_cons, List.map_nil, List.replicate, List.length_cons, List.length_nil, List.append_eq, List.nil_append, List.cons_append, Bool.and_true, Bool.true_and, Bool.and_false, Bool.false_and, Bool.not_true, Bool.not_false, if_true, if_false, reduceCtorEq, Nat.reduceSub, Nat.reduceAdd, Nat.reduceLeDiff, Bool.false_eq_true, Bool.or_false, Bool.false_or, ite_true, ite_false, lenOk_0, lenOk_1, lenOk_2, lenOk_3, lenOk_4, lenOk_5, lenOk_6, lenOk_7, lenOk_8, i_add, i_sub, i_neg, i_asI, N_int, i_inti, i_intb, decide_true, decide_false]
end K83

set_option Elab.async false
set_option linter.all false
set_option maxRecDepth 100000
set_option maxHeartbeats 4000000
namespace K83
open PySem L2 PV Qu
open Classical
variable {d : Nat}
/-! ### the program's lists in order, of whatever has x and y as its first parts -/
structure XY {α : Type} (d : Nat) (en : α → PyData) (fx fy : α → Q d) : Prop where
  x : ∀ t, evIx (en t) (.int 0) = some (false, L (fx t))
  y : ∀ t, evIx (en t) (.int 1) = some (false, L (fy t))
section
variable {α : Type} {en : α → PyData} {fx fy : α → Q d}
def ltA [NSq d] (fx fy : α → Q d) (t u : α) : Prop := fy t < fy u ∨ (fy t = fy u ∧ fx t < fx u)
/-- sizes of both -/
def SzA (k : Nat) (fx fy : α → Q d) (t : α) : Prop := Sz k (fx t) ∧ Sz k (fy t)
theorem comes_before_is [NSq d] (h : XY d en fx fy) {t u : α} {k : Nat} (hd : d < 64) (ht : SzA k fx fy t) (hu : SzA k fx fy u) (hk : k ≤ 1900) : f_comes_before [.int (d : Int), en t, en u] = some (false, .bool (decide (ltA fx fy t u))) := by
  have e1 := compare_is hd ht.2 hu.2 hk
  have e2 := compare_is hd ht.1 hu.1 hk
  have m1 := sgn_m1 (fy t) (fy u)
  have m2 := sgn_m1 (fx t) (fx u)
  have z1 := sgn_z (fy t) (fy u)
  unfold f_comes_before evDef ir_comes_before
  by_cases c : fy t = fy u
  · rw [decide_eq_true c] at z1
    have e3 : decide (ltA fx fy t u) = decide (fx t < fx u) := by
      rw [decide_eq_decide]
      unfold ltA
      rw [c]
      exact ⟨fun h => h.elim (fun h => absurd h (by grind)) (fun h => h.2), fun h => .inr ⟨rfl, h⟩⟩
    rw [e3]
    simp only [q_wipeR_1, q_wipeR_2, q_asg_1, q_asg_2, q_asg_3, q_asg_4, q_asg_5, q_asg_6, q_asg_7, q_asgR_1, q_ownedArg_1, q_ownedArgs_1, q_ownedArgs_2, q_itemsOf_1, q_itemsOf_2, q_evE_1, q_evE_2, q_evE_3, q_evE_4, q_evE_5, q_evE_6, q_evE_7, q_evE_8, q_evE_9, q_evE_10, q_evE_11, q_evE_12, q_evE_13, q_evE_14, q_evE_15, q_evE_16, q_evE_17, q_evE_18, q_evE_19, q_evE_20, q_evEs_1, q_evEs_2, q_evP_1, q_evP_2, q_evC_1, q_evC_2, q_evI_1, q_evI_2, q_evRet_1, q_evS_1, q_evS_2, q_evS_3, q_evS_4, q_evS_5, q_evS_6, q_evS_7, q_evS_8, q_evS_9, q_evS_10, q_evS_11, q_evS_12, q_evS_13, q_evS_14, q_evS_15, q_evS_16, q_evSs_1, q_evSs_2, q_oa_0, q_rt_0, q_oa_1, q_rt_1, q_oa_2, q_rt_2, q_oa_3, q_rt_3, q_oa_4, q_rt_4, q_oa_5, q_rt_5, q_oa_6, q_rt_6, q_oa_7, q_rt_7, q_oa_8, q_rt_8, q_oa_9, q_rt_9, q_oa_10, q_rt_10, q_oa_11, q_rt_11, q_oa_12, q_rt_12, q_oa_13, q_rt_13, q_oa_14, q_rt_14, q_oa_15, q_rt_15, q_oa_16, q_rt_16, q_oa_17, q_rt_17, q_oa_18, q_rt_18, q_ar_0, q_ar_1, q_ar_2, asI_i, q_ret, q_bind, q_bindn, q_map, q_mapn, q_evT, q_own, startR, List.getElem?_cons_succ, List.getElem?_cons_zero, List.set_cons_succ, List.set_cons_zero, List.map_cons, List.map_nil, List.replicate, List.length_cons, List.length_nil, List.append_eq, List.nil_append, List.cons_append, Bool.and_true, Bool.true_and, Bool.and_false, Bool.false_and, Bool.not_true, Bool.not_false, if_true, if_false, reduceCtorEq, Nat.reduceSub, Nat.reduceAdd, Nat.reduceLeDiff, Bool.false_eq_true, Bool.or_false, Bool.false_or, ite_true, ite_false, lenOk_0, lenOk_1, lenOk_2, lenOk_3, lenOk_4, lenOk_5, lenOk_6, lenOk_7, lenOk_8, i_add, i_sub, i_neg, i_asI, N_int, i_inti, i_intb, decide_true, decide_false, h.x, h.y, e1, e2, i_ne, z1, i_eq, m2]
  · rw [decide_eq_false c] at z1
    have e3 : decide (ltA fx fy t u) = decide (fy t < fy u) := by
      rw [decide_eq_decide]
      unfold ltA
      exact ⟨fun h => h.elim id (fun h => absurd h.1 c), fun h => .inl h⟩
    rw [e3]
    simp only [q_wipeR_1, q_wipeR_2, q_asg_1, q_asg_2, q_asg_3, q_asg_4, q_asg_5, q_asg_6, q_asg_7, q_asgR_1, q_ownedArg_1, q_ownedArgs_1, q_ownedArgs_2, q_itemsOf_1, q_itemsOf_2, q_evE_1, q_evE_2, q_evE_3, q_evE_4, q_evE_5, q_evE_6, q_evE_7, q_evE_8, q_evE_9, q_evE_10, q_evE_11, q_evE_12, q_evE_13, q_evE_14, q_evE_15, q_evE_16, q_evE_17, q_evE_18, q_evE_19, q_evE_20, q_evEs_1, q_evEs_2, q_evP_1, q_evP_2, q_evC_1, q_evC_2, q_evI_1, q_evI_2, q_evRet_1, q_evS_1, q_evS_2, q_evS_3, q_evS_4, q_evS_5, q_evS_6, q_evS_7, q_evS_8, q_evS_9, q_evS_10, q_evS_11, q_evS_12, q_evS_13, q_evS_14, q_evS_15, q_evS_16, q_evSs_1, q_evSs_2, q_oa_0, q_rt_0, q_oa_1, q_rt_1, q_oa_2, q_rt_2, q_oa_3, q_rt_3, q_oa_4, q_rt_4, q_oa_5, q_rt_5, q_oa_6, q_rt_6, q_oa_7, q_rt_7, q_oa_8, q_rt_8, q_oa_9, q_rt_9, q_oa_10, q_rt_10, q_oa_11, q_rt_11, q_oa_12, q_rt_12, q_oa_13, q_rt_13, q_oa_14, q_rt_14, q_oa_15, q_rt_15, q_oa_16, q_rt_16, q_oa_17, q_rt_17, q_oa_18, q_rt_18, q_ar_0, q_ar_1, q_ar_2, asI_i, q_ret, q_bind, q_bindn, q_map, q_mapn, q_evT, q_own, startR, List.getElem?_cons_succ, List.getElem?_cons_zero, List.set_cons_succ, List.set_cons_zero, List.map_cons, List.map_nil, List.replicate, List.length_cons, List.length_nil, List.append_eq, List.nil_append, List.cons_append, Bool.and_true, Bool.true_and, Bool.and_false, Bool.false_and, Bool.not_true, Bool.not_false, if_true, if_false, reduceCtorEq, Nat.reduceSub, Nat.reduceAdd, Nat.reduceLeDiff, Bool.false_eq_true, Bool.or_false, Bool.false_or, ite_true, ite_false, lenOk_0, lenOk_1, lenOk_2, lenOk_3, lenOk_4, lenOk_5, lenOk_6, lenOk_7, lenOk_8, i_add, i_sub, i_neg, i_asI, N_int, i_inti, i_intb, decide_true, decide_false, h.x, h.y, e1, e2, i_ne, z1, i_eq, m1]
/-- two lists in order put together -/
noncomputable def mgT [NSq d] (fx fy : α → Q d) : List α → List α → List α
  | [], S => S
  | t :: F, S => (S.takeWhile fun u => decide (ltA fx fy u t)) ++ t :: mgT fx fy F (S.dropWhile fun u => decide (ltA fx fy u t))
theorem mg_perm [NSq d] : ∀ F S : List α, (mgT fx fy F S).Perm (F ++ S)
  | [], S => .refl _
  | t :: F, S => by
    unfold mgT
    have h1 : ((S.takeWhile fun u => decide (ltA fx fy u t)) ++ t :: mgT fx fy F (S.dropWhile fun u => decide (ltA fx fy u t))).Perm (t :: ((S.takeWhile fun u => decide (ltA fx fy u t)) ++ mgT fx fy F (S.dropWhile fun u => decide (ltA fx fy u t)))) := List.perm_middle
    refine h1.trans (List.Perm.cons t ?_)
    have h2 := mg_perm F (S.dropWhile fun u => decide (ltA fx fy u t))
    refine (List.Perm.append_left _ h2).trans ?_
    have h3 : ((S.takeWhile fun u => decide (ltA fx fy u t)) ++ (F ++ (S.dropWhile fun u => decide (ltA fx fy u t)))).Perm (F ++ ((S.takeWhile fun u => decide (ltA fx fy u t)) ++ (S.dropWhile fun u => decide (ltA fx fy u t)))) := by
      rw [← List.append_assoc, ← List.append_assoc]
      exact List.Perm.append_right _ List.perm_append_comm
    refine h3.trans ?_
    rw [List.takeWhile_append_dropWhile]
    exact .refl _
/-- in order: none comes before one ahead of it -/
def SoT [NSq d] (fx fy : α → Q d) (l : List α) : Prop := l.Pairwise fun t u => ¬ ltA fx fy u t
theorem lt_tr [NSq d] {a b c : α} (h : ¬ ltA fx fy b a) (g : ¬ ltA fx fy c b) : ¬ ltA fx fy c a := by
  unfold ltA at *
  intro k
  have t1 : fy a < fy b ∨ fy a = fy b ∨ fy b < fy a := by grind
  have t2 : fy b < fy c ∨ fy b = fy c ∨ fy c < fy b := by grind
  rcases t1 with t1 | t1 | t1
  · rcases t2 with t2 | t2 | t2
    · rcases k with k | k <;> grind
    · rcases k with k | k <;> grind
    · exact g (.inl t2)
  · rcases t2 with t2 | t2 | t2
    · rcases k with k | k <;> grind
    · have h1 : ¬ fx b < fx a := fun z => h (.inr ⟨t1.symm, z⟩)
      have h2 : ¬ fx c < fx b := fun z => g (.inr ⟨t2.symm, z⟩)
      rcases k with k | k <;> grind
    · exact g (.inl t2)
  · exact h (.inl t1)
theorem lt_asym [NSq d] {a b : α} (h : ltA fx fy a b) : ¬ ltA fx fy b a := by
  unfold ltA at *
  intro k
  rcases h with h | ⟨h, h'⟩ <;> rcases k with k | ⟨k, k'⟩ <;> grind
theorem drop_so [NSq d] {t : α} {S : List α} (hS : SoT fx fy S) : SoT fx fy (S.dropWhile fun u => decide (ltA fx fy u t)) ∧ ∀ u ∈ S.dropWhile (fun u => decide (ltA fx fy u t)), ¬ ltA fx fy u t := by
  induction S with
  | nil => exact ⟨.nil, fun _ h => nomatch h⟩
  | cons a S ih =>
    unfold SoT at hS
    rw [List.pairwise_cons] at hS
    by_cases c : ltA fx fy a t
    · rw [List.dropWhile_cons, if_pos (decide_eq_true c)]
      exact ih hS.2
    · rw [List.dropWhile_cons, if_neg (by simpa using c)]
      refine ⟨List.pairwise_cons.mpr hS, fun u hu => ?_⟩
      rcases List.mem_cons.mp hu with rfl | hu
      · exact c
      · exact lt_tr c (hS.1 u hu)
theorem mg_so [NSq d] : ∀ F S : List α, SoT fx fy F → SoT fx fy S → SoT fx fy (mgT fx fy F S)
  | [], S, _, hS => hS
  | t :: F, S, hF, hS => by
    unfold SoT at hF
    rw [List.pairwise_cons] at hF
    obtain ⟨h1, h2⟩ := drop_so (t := t) hS
    have ih := mg_so F _ hF.2 h1
    have hp := mg_perm (fx := fx) (fy := fy) F (S.dropWhile fun u => decide (ltA fx fy u t))
    have hlow : ∀ u ∈ S.takeWhile (fun u => decide (ltA fx fy u t)), ltA fx fy u t := fun u hu => by
      have := List.all_eq_true.mp (List.all_takeWhile (l := S) (p := fun u => decide (ltA fx fy u t))) u hu
      exact of_decide_eq_true this
    have hup : ∀ u ∈ mgT fx fy F (S.dropWhile fun u => decide (ltA fx fy u t)), ¬ ltA fx fy u t := fun u hu => by
      rcases List.mem_append.mp (hp.mem_iff.mp hu) with h | h
      · exact hF.1 u h
      · exact h2 u h
    have hTake : SoT fx fy (S.takeWhile fun u => decide (ltA fx fy u t)) := List.Pairwise.sublist (List.takeWhile_sublist _) hS
    unfold mgT SoT
    rw [List.pairwise_append]
    refine ⟨hTake, List.pairwise_cons.mpr ⟨fun u hu => hup u hu, ih⟩, fun a ha b hb => ?_⟩
    have ha' := lt_asym (hlow a ha)
    rcases List.mem_cons.mp hb with rfl | hb
    · exact ha'
    · exact lt_tr ha' (hup b hb)
theorem n_rngS2 {n : Nat} (h : n ≤ 1000) : evRng [.int 0, .int ((n : Int) - 1), .int 2] = some ((List.range (n / 2)).map fun i => N (2 * i)) := by
  have e1 : Builtin.Range.rangeSize 0 ((n : Int) - 1) 2 = ((n / 2 : Nat) : Int) := by
    unfold Builtin.Range.rangeSize
    rw [if_pos (by decide)]
    split <;> omega
  have e2 : rngN 0 ((n : Int) - 1) 2 = n / 2 := by unfold rngN; rw [e1]; omega
  have f : ∀ a : Int, a.natAbs ≤ 10000 → Builtin.Range.rangeFitsLong a = true := fun a ha => by
    unfold Builtin.Range.rangeFitsLong
    simp
    omega
  have e3 : Builtin.Range.small 0 ((n : Int) - 1) 2 = true := by
    unfold Builtin.Range.small
    rw [e1, f 0 (by decide), f _ (by omega), f 2 (by decide), f _ (by omega), if_pos (by decide), f _ (by omega)]
    simp
  show (if (decide ((2 : Int) ≠ 0) && Nat.blt (2 : Int).natAbs 1073741824 && Builtin.Range.small 0 ((n : Int) - 1) 2 && lenOk (rngN 0 ((n : Int) - 1) 2) && decide (Builtin.Range.rangeSize 0 ((n : Int) - 1) 2 = (rngN 0 ((n : Int) - 1) 2 : Int))) = true then some (rngS 0 2 (rngN 0 ((n : Int) - 1) 2)) else none) = _
  rw [e1, e2, e3, lenOk_of (by omega), if_pos (by simp)]
  unfold rngS
  congr 2
  funext k
  show PyData.int _ = PyData.int _
  congr 1
  omega
theorem sl_dropA (xs : List PyData) (k : Nat) : evSl (.list xs) (some (k : Int)) none = some (true, .list (xs.drop k)) := by
  show some (true, PyData.list (cutD xs (some (k : Int)) none)) = _
  unfold cutD
  rw [HT.sIx_none, HT.sIx_nat]
  rcases Nat.le_total k xs.length with h | h
  · rw [Nat.min_eq_left h, List.take_of_length_le (by rw [List.length_drop]; omega)]
  · rw [Nat.min_eq_right h, List.drop_eq_nil_of_le (Nat.le_refl _), List.drop_eq_nil_of_le h, List.take_nil]
theorem i_catA (a b : List PyData) : evBin .add (.list a) (.list b) = if lenOk (a.length + b.length) = true then some (true, .list (a ++ b)) else none := Eq.trans rfl (Eq.refl _)
theorem ix_mapA {l : List α} {k : Nat} (h : k < l.length) : evIx (.list (l.map en)) (.int (k : Int)) = some (false, en l[k]) := by
  show (L2.atI (l.map en) ((k : Nat) : Int)).map _ = _
  rw [atI_N, List.getElem?_map, List.getElem?_eq_getElem h]
  rfl
theorem len_mapA (l : List α) : evBI .len [.list (l.map en)] = some (false, .int (l.length : Nat)) := by
  show some (false, PyData.int _) = _
  rw [List.length_map]
/-- the loop that goes on in the second list -/
theorem merged_wh [NSq d] (h : XY d en fx fy) {k : Nat} {S : List α} {t : α} {s0 s1 : Option R} (hd : d < 64) (hS : ∀ u ∈ S, SzA k fx fy u) (ht : SzA k fx fy t) (hk : k ≤ 1900) (hn : S.length ≤ 1000) : ∀ (n at0 : Nat) (X : List α), at0 ≤ S.length → S.length - at0 + 1 ≤ n → X.length ≤ 1000 + at0 →
    whileGo (tst iw_merged_1) (blk FUEL ib_merged_1) n [sI (d : Int), s1, some (false, .list (S.map en)), some (true, .list (X.map en)), sI (at0 : Int), some (false, en t)] =
      some (.nx [sI (d : Int), s1, some (false, .list (S.map en)), some (true, .list ((X ++ (S.drop at0).takeWhile fun u => decide (ltA fx fy u t)).map en)), sI ((at0 + ((S.drop at0).takeWhile fun u => decide (ltA fx fy u t)).length : Nat) : Int), some (false, en t)]) := by
  intro n
  induction n with
  | zero => intro at0 X h1 h2; omega
  | succ n ih =>
    intro at0 X h1 h2 h3
    by_cases c : at0 < S.length
    · have hx := ix_mapA (en := en) c
      have hm : S[at0] ∈ S := List.getElem_mem c
      have eb := comes_before_is h hd (hS _ hm) ht hk
      have ed : S.drop at0 = S[at0] :: S.drop (at0 + 1) := (List.drop_eq_getElem_cons c)
      have cl : decide ((at0 : Int) < (S.length : Int)) = true := decide_eq_true (by omega)
      have tv : tst iw_merged_1 [sI (d : Int), s1, some (false, .list (S.map en)), some (true, .list (X.map en)), sI (at0 : Int), some (false, en t)] = some (decide (ltA fx fy S[at0] t)) := by
        unfold tst iw_merged_1
        simp only [q_wipeR_1, q_wipeR_2, q_asg_1, q_asg_2, q_asg_3, q_asg_4, q_asg_5, q_asg_6, q_asg_7, q_asgR_1, q_ownedArg_1, q_ownedArgs_1, q_ownedArgs_2, q_itemsOf_1, q_itemsOf_2, q_evE_1, q_evE_2, q_evE_3, q_evE_4, q_evE_5, q_evE_6, q_evE_7, q_evE_8, q_evE_9, q_evE_10, q_evE_11, q_evE_12, q_evE_13, q_evE_14, q_evE_15, q_evE_16, q_evE_17, q_evE_18, q_evE_19, q_evE_20, q_evEs_1, q_evEs_2, q_evP_1, q_evP_2, q_evC_1, q_evC_2, q_evI_1, q_evI_2, q_evRet_1, q_evS_1, q_evS_2, q_evS_3, q_evS_4, q_evS_5, q_evS_6, q_evS_7, q_evS_8, q_evS_9, q_evS_10, q_evS_11, q_evS_12, q_evS_13, q_evS_14, q_evS_15, q_evS_16, q_evSs_1, q_evSs_2, q_oa_0, q_rt_0, q_oa_1, q_rt_1, q_oa_2, q_rt_2, q_oa_3, q_rt_3, q_oa_4, q_rt_4, q_oa_5, q_rt_5, q_oa_6, q_rt_6, q_oa_7, q_rt_7, q_oa_8, q_rt_8, q_oa_9, q_rt_9, q_oa_10, q_rt_10, q_oa_11, q_rt_11, q_oa_12, q_rt_12, q_oa_13, q_rt_13, q_oa_14, q_rt_14, q_oa_15, q_rt_15, q_oa_16, q_rt_16, q_oa_17, q_rt_17, q_oa_18, q_rt_18, q_ar_0, q_ar_1, q_ar_2, asI_i, q_ret, q_bind, q_bindn, q_map, q_mapn, q_evT, q_own, startR, List.getElem?_cons_succ, List.getElem?_cons_zero, List.set_cons_succ, List.set_cons_zero, List.map_cons, List.map_nil, List.replicate, List.length_cons, List.length_nil, List.append_eq, List.nil_append, List.cons_append, Bool.and_true, Bool.true_and, Bool.and_false, Bool.false_and, Bool.not_true, Bool.not_false, if_true, if_false, reduceCtorEq, Nat.reduceSub, Nat.reduceAdd, Nat.reduceLeDiff, Bool.false_eq_true, Bool.or_false, Bool.false_or, ite_true, ite_false, lenOk_0, lenOk_1, lenOk_2, lenOk_3, lenOk_4, lenOk_5, lenOk_6, lenOk_7, lenOk_8, i_add, i_sub, i_neg, i_asI, N_int, i_inti, i_intb, decide_true, decide_false, len_mapA, i_lt, cl, hx, eb]
      by_cases c2 : ltA fx fy S[at0] t
      · rw [decide_eq_true c2] at tv
        have hl : lenOk ((X.map en).length + 1) = true := lenOk_of (by rw [List.length_map]; omega)
        have bv : blk FUEL ib_merged_1 [sI (d : Int), s1, some (false, .list (S.map en)), some (true, .list (X.map en)), sI (at0 : Int), some (false, en t)] = some (.nx [sI (d : Int), s1, some (false, .list (S.map en)), some (true, .list ((X ++ [S[at0]]).map en)), sI ((at0 + 1 : Nat) : Int), some (false, en t)]) := by
          have e1 : ((at0 + 1 : Nat) : Int) = (at0 : Int) + 1 := by omega
          rw [e1, List.map_append]
          unfold blk ib_merged_1
          simp only [q_wipeR_1, q_wipeR_2, q_asg_1, q_asg_2, q_asg_3, q_asg_4, q_asg_5, q_asg_6, q_asg_7, q_asgR_1, q_ownedArg_1, q_ownedArgs_1, q_ownedArgs_2, q_itemsOf_1, q_itemsOf_2, q_evE_1, q_evE_2, q_evE_3, q_evE_4, q_evE_5, q_evE_6, q_evE_7, q_evE_8, q_evE_9, q_evE_10, q_evE_11, q_evE_12, q_evE_13, q_evE_14, q_evE_15, q_evE_16, q_evE_17, q_evE_18, q_evE_19, q_evE_20, q_evEs_1, q_evEs_2, q_evP_1, q_evP_2, q_evC_1, q_evC_2, q_evI_1, q_evI_2, q_evRet_1, q_evS_1, q_evS_2, q_evS_3, q_evS_4, q_evS_5, q_evS_6, q_evS_7, q_evS_8, q_evS_9, q_evS_10, q_evS_11, q_evS_12, q_evS_13, q_evS_14, q_evS_15, q_evS_16, q_evSs_1, q_evSs_2, q_oa_0, q_rt_0, q_oa_1, q_rt_1, q_oa_2, q_rt_2, q_oa_3, q_rt_3, q_oa_4, q_rt_4, q_oa_5, q_rt_5, q_oa_6, q_rt_6, q_oa_7, q_rt_7, q_oa_8, q_rt_8, q_oa_9, q_rt_9, q_oa_10, q_rt_10, q_oa_11, q_rt_11, q_oa_12, q_rt_12, q_oa_13, q_rt_13, q_oa_14, q_rt_14, q_oa_15, q_rt_15, q_oa_16, q_rt_16, q_oa_17, q_rt_17, q_oa_18, q_rt_18, q_ar_0, q_ar_1, q_ar_2, asI_i, q_ret, q_bind, q_bindn, q_map, q_mapn, q_evT, q_own, startR, List.getElem?_cons_succ, List.getElem?_cons_zero, List.set_cons_succ, List.set_cons_zero, List.map_cons, List.map_nil, List.replicate, List.length_cons, List.length_nil, List.append_eq, List.nil_append, List.cons_append, Bool.and_true, Bool.true_and, Bool.and_false, Bool.false_and, Bool.not_true, Bool.not_false, if_true, if_false, reduceCtorEq, Nat.reduceSub, Nat.reduceAdd, Nat.reduceLeDiff, Bool.false_eq_true, Bool.or_false, Bool.false_or, ite_true, ite_false, lenOk_0, lenOk_1, lenOk_2, lenOk_3, lenOk_4, lenOk_5, lenOk_6, lenOk_7, lenOk_8, i_add, i_sub, i_neg, i_asI, N_int, i_inti, i_intb, decide_true, decide_false, hx, hl]
        rw [wh_true tv bv, ih (at0 + 1) (X ++ [S[at0]]) (by omega) (by omega) (by rw [List.length_append, List.length_singleton]; omega), ed, List.takeWhile_cons, if_pos (decide_eq_true c2), List.append_assoc, List.length_cons]
        have e2 : at0 + 1 + (List.takeWhile (fun u => decide (ltA fx fy u t)) (S.drop (at0 + 1))).length = at0 + ((List.takeWhile (fun u => decide (ltA fx fy u t)) (S.drop (at0 + 1))).length + 1) := by omega
        rw [e2]
        rfl
      · rw [decide_eq_false c2] at tv
        rw [wh_false tv, ed, List.takeWhile_cons, if_neg (by simpa using c2), List.append_nil]
        rfl
    · have ed : S.drop at0 = [] := List.drop_eq_nil_of_le (by omega)
      have cl : decide ((at0 : Int) < (S.length : Int)) = false := decide_eq_false (by omega)
      have tv : tst iw_merged_1 [sI (d : Int), s1, some (false, .list (S.map en)), some (true, .list (X.map en)), sI (at0 : Int), some (false, en t)] = some false := by
        unfold tst iw_merged_1
        simp only [q_wipeR_1, q_wipeR_2, q_asg_1, q_asg_2, q_asg_3, q_asg_4, q_asg_5, q_asg_6, q_asg_7, q_asgR_1, q_ownedArg_1, q_ownedArgs_1, q_ownedArgs_2, q_itemsOf_1, q_itemsOf_2, q_evE_1, q_evE_2, q_evE_3, q_evE_4, q_evE_5, q_evE_6, q_evE_7, q_evE_8, q_evE_9, q_evE_10, q_evE_11, q_evE_12, q_evE_13, q_evE_14, q_evE_15, q_evE_16, q_evE_17, q_evE_18, q_evE_19, q_evE_20, q_evEs_1, q_evEs_2, q_evP_1, q_evP_2, q_evC_1, q_evC_2, q_evI_1, q_evI_2, q_evRet_1, q_evS_1, q_evS_2, q_evS_3, q_evS_4, q_evS_5, q_evS_6, q_evS_7, q_evS_8, q_evS_9, q_evS_10, q_evS_11, q_evS_12, q_evS_13, q_evS_14, q_evS_15, q_evS_16, q_evSs_1, q_evSs_2, q_oa_0, q_rt_0, q_oa_1, q_rt_1, q_oa_2, q_rt_2, q_oa_3, q_rt_3, q_oa_4, q_rt_4, q_oa_5, q_rt_5, q_oa_6, q_rt_6, q_oa_7, q_rt_7, q_oa_8, q_rt_8, q_oa_9, q_rt_9, q_oa_10, q_rt_10, q_oa_11, q_rt_11, q_oa_12, q_rt_12, q_oa_13, q_rt_13, q_oa_14, q_rt_14, q_oa_15, q_rt_15, q_oa_16, q_rt_16, q_oa_17, q_rt_17, q_oa_18, q_rt_18, q_ar_0, q_ar_1, q_ar_2, asI_i, q_ret, q_bind, q_bindn, q_map, q_mapn, q_evT, q_own, startR, List.getElem?_cons_succ, List.getElem?_cons_zero, List.set_cons_succ, List.set_cons_zero, List.map_cons, List.map_nil, List.replicate, List.length_cons, List.length_nil, List.append_eq, List.nil_append, List.cons_append, Bool.and_true, Bool.true_and, Bool.and_false, Bool.false_and, Bool.not_true, Bool.not_false, if_true, if_false, reduceCtorEq, Nat.reduceSub, Nat.reduceAdd, Nat.reduceLeDiff, Bool.false_eq_true, Bool.or_false, Bool.false_or, ite_true, ite_false, lenOk_0, lenOk_1, lenOk_2, lenOk_3, lenOk_4, lenOk_5, lenOk_6, lenOk_7, lenOk_8, i_add, i_sub, i_neg, i_asI, N_int, i_inti, i_intb, decide_true, decide_false, len_mapA, i_lt, cl]
      rw [wh_false tv, ed, List.takeWhile_nil, List.append_nil]
      rfl
theorem drop_tw (p : α → Bool) : ∀ l : List α, l.drop (l.takeWhile p).length = l.dropWhile p
  | [] => rfl
  | a :: l => by
    rw [List.takeWhile_cons, List.dropWhile_cons]
    split
    · rw [List.length_cons, List.drop_succ_cons]; exact drop_tw p l
    · rfl
theorem merged_is [NSq d] (h : XY d en fx fy) {k : Nat} {F S : List α} (hd : d < 64) (hF : ∀ u ∈ F, SzA k fx fy u) (hS : ∀ u ∈ S, SzA k fx fy u) (hk : k ≤ 1900) (hn : S.length ≤ 500) (hm : F.length ≤ 500) : f_merged [.int (d : Int), .list (F.map en), .list (S.map en)] = some (true, .list ((mgT fx fy F S).map en)) := by
  obtain ⟨ρ', e, X, at0, j5, h1, h2, h3, rfl⟩ := forGo_do (g := .nm 5) (f := blk FUEL ib_merged_2) en (fun pre ρ => ∃ (X : List α) (at0 : Nat) (j5 : Option R), at0 ≤ S.length ∧ X.length = pre.length + at0 ∧ (∀ suf, pre ++ suf = F → X ++ mgT fx fy suf (S.drop at0) = mgT fx fy F S) ∧ ρ = [sI (d : Int), some (false, .list (F.map en)), some (false, .list (S.map en)), some (true, .list (X.map en)), sI (at0 : Int), j5]) (l := F) (ρ := [sI (d : Int), some (false, .list (F.map en)), some (false, .list (S.map en)), some (true, .list (([] : List α).map en)), sI ((0 : Nat) : Int), none]) ⟨[], 0, none, Nat.zero_le _, rfl, fun suf hs => by rw [List.nil_append] at hs; subst hs; rfl, rfl⟩ (by
    rintro pre t suf ρ hs ⟨X, at0, j5, h1, h2, h3, rfl⟩
    have htF : t ∈ F := by rw [hs]; simp
    have hpl : pre.length < F.length := by rw [hs, List.length_append, List.length_cons]; omega
    have ew := merged_wh (s0 := none) (s1 := some (false, .list (F.map en))) h hd hS (hF t htF) hk (by omega) FUEL at0 X h1 (by show _ ≤ 1000000000000000; omega) (by omega)
    have hlt : ((S.drop at0).takeWhile fun u => decide (ltA fx fy u t)).length ≤ S.length - at0 := by
      have := (List.takeWhile_sublist (l := S.drop at0) (fun u => decide (ltA fx fy u t))).length_le
      rw [List.length_drop] at this
      exact this
    have hdr : S.drop (at0 + ((S.drop at0).takeWhile fun u => decide (ltA fx fy u t)).length) = (S.drop at0).dropWhile fun u => decide (ltA fx fy u t) := by
      rw [← List.drop_drop]
      exact drop_tw _ _
    generalize hTW : (S.drop at0).takeWhile (fun u => decide (ltA fx fy u t)) = TW at *
    have hl : lenOk (((X ++ TW).map en).length + 1) = true := lenOk_of (by rw [List.length_map, List.length_append]; omega)
    refine ⟨_, _, rfl, ?_, X ++ TW ++ [t], at0 + TW.length, some (false, en t), by omega, by simp only [List.length_append, List.length_singleton]; omega, fun suf' hs' => ?_, rfl⟩
    · rw [List.map_append (l₁ := X ++ TW)]
      unfold blk ib_merged_2
      simp only [q_wipeR_1, q_wipeR_2, q_asg_1, q_asg_2, q_asg_3, q_asg_4, q_asg_5, q_asg_6, q_asg_7, q_asgR_1, q_ownedArg_1, q_ownedArgs_1, q_ownedArgs_2, q_itemsOf_1, q_itemsOf_2, q_evE_1, q_evE_2, q_evE_3, q_evE_4, q_evE_5, q_evE_6, q_evE_7, q_evE_8, q_evE_9, q_evE_10, q_evE_11, q_evE_12, q_evE_13, q_evE_14, q_evE_15, q_evE_16, q_evE_17, q_evE_18, q_evE_19, q_evE_20, q_evEs_1, q_evEs_2, q_evP_1, q_evP_2, q_evC_1, q_evC_2, q_evI_1, q_evI_2, q_evRet_1, q_evS_1, q_evS_2, q_evS_3, q_evS_4, q_evS_5, q_evS_6, q_evS_7, q_evS_8, q_evS_9, q_evS_10, q_evS_11, q_evS_12, q_evS_13, q_evS_14, q_evS_15, q_evS_16, q_evSs_1, q_evSs_2, q_oa_0, q_rt_0, q_oa_1, q_rt_1, q_oa_2, q_rt_2, q_oa_3, q_rt_3, q_oa_4, q_rt_4, q_oa_5, q_rt_5, q_oa_6, q_rt_6, q_oa_7, q_rt_7, q_oa_8, q_rt_8, q_oa_9, q_rt_9, q_oa_10, q_rt_10, q_oa_11, q_rt_11, q_oa_12, q_rt_12, q_oa_13, q_rt_13, q_oa_14, q_rt_14, q_oa_15, q_rt_15, q_oa_16, q_rt_16, q_oa_17, q_rt_17, q_oa_18, q_rt_18, q_ar_0, q_ar_1, q_ar_2, asI_i, q_ret, q_bind, q_bindn, q_map, q_mapn, q_evT, q_own, startR, List.getElem?_cons_succ, List.getElem?_cons_zero, List.set_cons_succ, List.set_cons_zero, List.map_cons, List.map_nil, List.replicate, List.length_cons, List.length_nil, List.append_eq, List.nil_append, List.cons_append, Bool.and_true, Bool.true_and, Bool.and_false, Bool.false_and, Bool.not_true, Bool.not_false, if_true, if_false, reduceCtorEq, Nat.reduceSub, Nat.reduceAdd, Nat.reduceLeDiff, Bool.false_eq_true, Bool.or_false, Bool.false_or, ite_true, ite_false, lenOk_0, lenOk_1, lenOk_2, lenOk_3, lenOk_4, lenOk_5, lenOk_6, lenOk_7, lenOk_8, i_add, i_sub, i_neg, i_asI, N_int, i_inti, i_intb, decide_true, decide_false]
      have ew' : whileGo (tst iw_merged_1) (blk FUEL ib_merged_1) FUEL [some (false, .int (d : Int)), some (false, .list (F.map en)), some (false, .list (S.map en)), some (true, .list (X.map en)), some (false, .int (at0 : Int)), some (false, en t)] = _ := ew
      simp only [q_wipeR_1, q_wipeR_2, q_asg_1, q_asg_2, q_asg_3, q_asg_4, q_asg_5, q_asg_6, q_asg_7, q_asgR_1, q_ownedArg_1, q_ownedArgs_1, q_ownedArgs_2, q_itemsOf_1, q_itemsOf_2, q_evE_1, q_evE_2, q_evE_3, q_evE_4, q_evE_5, q_evE_6, q_evE_7, q_evE_8, q_evE_9, q_evE_10, q_evE_11, q_evE_12, q_evE_13, q_evE_14, q_evE_15, q_evE_16, q_evE_17, q_evE_18, q_evE_19, q_evE_20, q_evEs_1, q_evEs_2, q_evP_1, q_evP_2, q_evC_1, q_evC_2, q_evI_1, q_evI_2, q_evRet_1, q_evS_1, q_evS_2, q_evS_3, q_evS_4, q_evS_5, q_evS_6, q_evS_7, q_evS_8, q_evS_9, q_evS_10, q_evS_11, q_evS_12, q_evS_13, q_evS_14, q_evS_15, q_evS_16, q_evSs_1, q_evSs_2, q_oa_0, q_rt_0, q_oa_1, q_rt_1, q_oa_2, q_rt_2, q_oa_3, q_rt_3, q_oa_4, q_rt_4, q_oa_5, q_rt_5, q_oa_6, q_rt_6, q_oa_7, q_rt_7, q_oa_8, q_rt_8, q_oa_9, q_rt_9, q_oa_10, q_rt_10, q_oa_11, q_rt_11, q_oa_12, q_rt_12, q_oa_13, q_rt_13, q_oa_14, q_rt_14, q_oa_15, q_rt_15, q_oa_16, q_rt_16, q_oa_17, q_rt_17, q_oa_18, q_rt_18, q_ar_0, q_ar_1, q_ar_2, asI_i, q_ret, q_bind, q_bindn, q_map, q_mapn, q_evT, q_own, startR, List.getElem?_cons_succ, List.getElem?_cons_zero, List.set_cons_succ, List.set_cons_zero, List.map_cons, List.map_nil, List.replicate, List.length_cons, List.length_nil, List.append_eq, List.nil_append, List.cons_append, Bool.and_true, Bool.true_and, Bool.and_false, Bool.false_and, Bool.not_true, Bool.not_false, if_true, if_false, reduceCtorEq, Nat.reduceSub, Nat.reduceAdd, Nat.reduceLeDiff, Bool.false_eq_true, Bool.or_false, Bool.false_or, ite_true, ite_false, lenOk_0, lenOk_1, lenOk_2, lenOk_3, lenOk_4, lenOk_5, lenOk_6, lenOk_7, lenOk_8, i_add, i_sub, i_neg, i_asI, N_int, i_inti, i_intb, decide_true, decide_false, ew', hl]
    · rw [hdr]
      have h4 := h3 (t :: suf') (by rw [← hs', List.append_assoc]; rfl)
      rw [← h4]
      show _ = X ++ ((S.drop at0).takeWhile (fun u => decide (ltA fx fy u t)) ++ t :: mgT fx fy suf' ((S.drop at0).dropWhile fun u => decide (ltA fx fy u t)))
      rw [hTW, List.append_assoc, List.append_assoc]
      rfl)
  have h4 := h3 [] (List.append_nil F)
  have h5 : X ++ S.drop at0 = mgT fx fy F S := h4
  have hl : lenOk ((X.map en).length + ((S.map en).drop at0).length) = true := lenOk_of (by rw [List.length_map, List.length_drop, List.length_map]; omega)
  have e' : forGo (.nm 5) (blk FUEL ib_merged_2) (F.map en) [some (false, .int (d : Int)), some (false, .list (F.map en)), some (false, .list (S.map en)), some (true, .list []), some (false, .int 0), none] = _ := e
  have hit : itemsOf (.list (F.map en)) = some (F.map en) := rfl
  unfold f_merged evDef ir_merged
  simp only [q_wipeR_1, q_wipeR_2, q_asg_1, q_asg_2, q_asg_3, q_asg_4, q_asg_5, q_asg_6, q_asg_7, q_asgR_1, q_ownedArg_1, q_ownedArgs_1, q_ownedArgs_2, q_itemsOf_1, q_itemsOf_2, q_evE_1, q_evE_2, q_evE_3, q_evE_4, q_evE_5, q_evE_6, q_evE_7, q_evE_8, q_evE_9, q_evE_10, q_evE_11, q_evE_12, q_evE_13, q_evE_14, q_evE_15, q_evE_16, q_evE_17, q_evE_18, q_evE_19, q_evE_20, q_evEs_1, q_evEs_2, q_evP_1, q_evP_2, q_evC_1, q_evC_2, q_evI_1, q_evI_2, q_evRet_1, q_evS_1, q_evS_2, q_evS_3, q_evS_4, q_evS_5, q_evS_6, q_evS_7, q_evS_8, q_evS_9, q_evS_10, q_evS_11, q_evS_12, q_evS_13, q_evS_14, q_evS_15, q_evS_16, q_evSs_1, q_evSs_2, q_oa_0, q_rt_0, q_oa_1, q_rt_1, q_oa_2, q_rt_2, q_oa_3, q_rt_3, q_oa_4, q_rt_4, q_oa_5, q_rt_5, q_oa_6, q_rt_6, q_oa_7, q_rt_7, q_oa_8, q_rt_8, q_oa_9, q_rt_9, q_oa_10, q_rt_10, q_oa_11, q_rt_11, q_oa_12, q_rt_12, q_oa_13, q_rt_13, q_oa_14, q_rt_14, q_oa_15, q_rt_15, q_oa_16, q_rt_16, q_oa_17, q_rt_17, q_oa_18, q_rt_18, q_ar_0, q_ar_1, q_ar_2, asI_i, q_ret, q_bind, q_bindn, q_map, q_mapn, q_evT, q_own, startR, List.getElem?_cons_succ, List.getElem?_cons_zero, List.set_cons_succ, List.set_cons_zero, List.map_cons, List.map_nil, List.replicate, List.length_cons, List.length_nil, List.append_eq, List.nil_append, List.cons_append, Bool.and_true, Bool.true_and, Bool.and_false, Bool.false_and, Bool.not_true, Bool.not_false, if_true, if_false, reduceCtorEq, Nat.reduceSub, Nat.reduceAdd, Nat.reduceLeDiff, Bool.false_eq_true, Bool.or_false, Bool.false_or, ite_true, ite_false, lenOk_0, lenOk_1, lenOk_2, lenOk_3, lenOk_4, lenOk_5, lenOk_6, lenOk_7, lenOk_8, i_add, i_sub, i_neg, i_asI, N_int, i_inti, i_intb, decide_true, decide_false, hit, e', sl_dropA, i_catA, hl]
  rw [← h5, List.map_append, List.map_drop]
/-! the passes -/
noncomputable def passT [NSq d] (fx fy : α → Q d) : List (List α) → List (List α)
  | a :: b :: r => mgT fx fy a b :: passT fx fy r
  | [a] => [a]
  | [] => []
theorem pass_len [NSq d] : ∀ LL : List (List α), (passT fx fy LL).length = (LL.length + 1) / 2
  | a :: b :: r => by unfold passT; rw [List.length_cons, pass_len r, List.length_cons, List.length_cons]; omega
  | [a] => by simp [passT]
  | [] => by simp [passT]
theorem pass_perm [NSq d] : ∀ LL : List (List α), (passT fx fy LL).flatten.Perm LL.flatten
  | a :: b :: r => by
    unfold passT
    rw [List.flatten_cons, List.flatten_cons, List.flatten_cons, ← List.append_assoc]
    exact List.Perm.append (mg_perm a b) (pass_perm r)
  | [a] => .refl _
  | [] => .refl _
theorem pass_so [NSq d] : ∀ LL : List (List α), (∀ l ∈ LL, SoT fx fy l) → ∀ l ∈ passT fx fy LL, SoT fx fy l
  | a :: b :: r, h, l, hl => by
    unfold passT at hl
    rcases List.mem_cons.mp hl with rfl | hl
    · exact mg_so a b (h a (by simp)) (h b (by simp))
    · exact pass_so r (fun l hl => h l (by simp [hl])) l hl
  | [a], h, l, hl => h l hl
  | [], _, l, hl => nomatch hl
theorem pass_ix [NSq d] : ∀ LL : List (List α), passT fx fy LL = ((List.range (LL.length / 2)).map fun i => mgT fx fy (LL.getD (2 * i) []) (LL.getD (2 * i + 1) [])) ++ (if LL.length % 2 = 1 then [LL.getD (LL.length - 1) []] else [])
  | a :: b :: r => by
    unfold passT
    rw [pass_ix r]
    have e : (a :: b :: r).length / 2 = r.length / 2 + 1 := by rw [List.length_cons, List.length_cons]; omega
    rw [e, List.range_succ_eq_map, List.map_cons, List.map_map, List.cons_append]
    congr 1
    have e2 : (a :: b :: r).length % 2 = r.length % 2 := by rw [List.length_cons, List.length_cons]; omega
    rw [e2]
    congr 1
    by_cases c : r.length % 2 = 1
    · rw [if_pos c, if_pos c]
      congr 1
      have e3 : (a :: b :: r).length - 1 = (r.length - 1) + 1 + 1 := by rw [List.length_cons, List.length_cons]; omega
      rw [e3, List.getD_cons_succ, List.getD_cons_succ]
    · rw [if_neg c, if_neg c]
  | [a] => by simp [passT]
  | [] => by simp [passT]
def encLs (en : α → PyData) (l : List α) : PyData := .list (l.map en)
theorem ix_last {β : Type} (e2 : β → PyData) (z : β) {l : List β} (h : 0 < l.length) : evIx (.list (l.map e2)) (.int (-1)) = some (false, e2 (l.getD (l.length - 1) z)) := by
  show (L2.atI (l.map e2) (-1)).map _ = _
  unfold L2.atI L2.ixN
  rw [if_neg (by decide), if_pos (by rw [List.length_map]; omega), List.length_map]
  have e : ((-1 : Int) + (l.length : Int)).toNat = l.length - 1 := by omega
  rw [e]
  show (((l.map e2)[l.length - 1]?)).map _ = _
  rw [List.getElem?_map, List.getElem?_eq_getElem (show l.length - 1 < l.length by omega), List.getD_eq_getElem?_getD, List.getElem?_eq_getElem (show l.length - 1 < l.length by omega)]
  rfl
theorem ix_getA {β : Type} (e2 : β → PyData) (z : β) {l : List β} {k : Nat} (h : k < l.length) : evIx (.list (l.map e2)) (.int (k : Int)) = some (false, e2 (l.getD k z)) := by
  show (L2.atI (l.map e2) ((k : Nat) : Int)).map _ = _
  rw [atI_N, List.getElem?_map, List.getElem?_eq_getElem h, List.getD_eq_getElem?_getD, List.getElem?_eq_getElem h]
  rfl
theorem flat_len {β : Type} : ∀ {LL : List (List β)} {l : List β}, l ∈ LL → l.length ≤ LL.flatten.length
  | a :: r, l, h => by
    rw [List.flatten_cons, List.length_append]
    rcases List.mem_cons.mp h with rfl | h
    · omega
    · have := flat_len h; omega
theorem inord_wh [NSq d] (h : XY d en fx fy) {k : Nat} {l : List α} {s1 s3 : Option R} (hd : d < 64) (hl : ∀ u ∈ l, SzA k fx fy u) (hk : k ≤ 1900) (hn : l.length ≤ 400) : ∀ (n m : Nat) (LL : List (List α)) (j4 j5 : Option R), LL.length = m → m + 1 ≤ n → m ≤ 400 → LL.flatten.Perm l → (∀ r ∈ LL, SoT fx fy r) →
    ∃ (LL' : List (List α)) (j4' j5' : Option R), LL'.length ≤ 1 ∧ LL'.flatten.Perm l ∧ (∀ r ∈ LL', SoT fx fy r) ∧ whileGo (tst iw_in_order_3) (blk FUEL ib_in_order_3) n [sI (d : Int), s1, some (false, .list (LL.map (encLs en))), s3, j4, j5] = some (.nx [sI (d : Int), s1, some (false, .list (LL'.map (encLs en))), s3, j4', j5']) := by
  intro n
  induction n with
  | zero => intro m LL j4 j5 h1 h2; omega
  | succ n ih =>
    intro m LL j4 j5 h1 h2 h3 hp hs
    have hlenL : evBI .len [.list (LL.map (encLs en))] = some (false, .int (LL.length : Nat)) := by
      show some (false, PyData.int _) = _
      rw [List.length_map]
    by_cases c : 1 < LL.length
    · have tv : tst iw_in_order_3 [sI (d : Int), s1, some (false, .list (LL.map (encLs en))), s3, j4, j5] = some true := by
        have cc : decide ((1 : Int) < (LL.length : Int)) = true := decide_eq_true (by omega)
        unfold tst iw_in_order_3
        simp only [q_wipeR_1, q_wipeR_2, q_asg_1, q_asg_2, q_asg_3, q_asg_4, q_asg_5, q_asg_6, q_asg_7, q_asgR_1, q_ownedArg_1, q_ownedArgs_1, q_ownedArgs_2, q_itemsOf_1, q_itemsOf_2, q_evE_1, q_evE_2, q_evE_3, q_evE_4, q_evE_5, q_evE_6, q_evE_7, q_evE_8, q_evE_9, q_evE_10, q_evE_11, q_evE_12, q_evE_13, q_evE_14, q_evE_15, q_evE_16, q_evE_17, q_evE_18, q_evE_19, q_evE_20, q_evEs_1, q_evEs_2, q_evP_1, q_evP_2, q_evC_1, q_evC_2, q_evI_1, q_evI_2, q_evRet_1, q_evS_1, q_evS_2, q_evS_3, q_evS_4, q_evS_5, q_evS_6, q_evS_7, q_evS_8, q_evS_9, q_evS_10, q_evS_11, q_evS_12, q_evS_13, q_evS_14, q_evS_15, q_evS_16, q_evSs_1, q_evSs_2, q_oa_0, q_rt_0, q_oa_1, q_rt_1, q_oa_2, q_rt_2, q_oa_3, q_rt_3, q_oa_4, q_rt_4, q_oa_5, q_rt_5, q_oa_6, q_rt_6, q_oa_7, q_rt_7, q_oa_8, q_rt_8, q_oa_9, q_rt_9, q_oa_10, q_rt_10, q_oa_11, q_rt_11, q_oa_12, q_rt_12, q_oa_13, q_rt_13, q_oa_14, q_rt_14, q_oa_15, q_rt_15, q_oa_16, q_rt_16, q_oa_17, q_rt_17, q_oa_18, q_rt_18, q_ar_0, q_ar_1, q_ar_2, asI_i, q_ret, q_bind, q_bindn, q_map, q_mapn, q_evT, q_own, startR, List.getElem?_cons_succ, List.getElem?_cons_zero, List.set_cons_succ, List.set_cons_zero, List.map_cons, List.map_nil, List.replicate, List.length_cons, List.length_nil, List.append_eq, List.nil_append, List.cons_append, Bool.and_true, Bool.true_and, Bool.and_false, Bool.false_and, Bool.not_true, Bool.not_false, if_true, if_false, reduceCtorEq, Nat.reduceSub, Nat.reduceAdd, Nat.reduceLeDiff, Bool.false_eq_true, Bool.or_false, Bool.false_or, ite_true, ite_false, lenOk_0, lenOk_1, lenOk_2, lenOk_3, lenOk_4, lenOk_5, lenOk_6, lenOk_7, lenOk_8, i_add, i_sub, i_neg, i_asI, N_int, i_inti, i_intb, decide_true, decide_false, hlenL, i_gt, cc]
      have hin : ∀ r ∈ LL, (∀ u ∈ r, SzA k fx fy u) ∧ r.length ≤ 500 := fun r hr => by
        refine ⟨fun u hu => hl u (hp.mem_iff.mp (List.mem_flatten.mpr ⟨r, hr, hu⟩)), ?_⟩
        have := flat_len hr
        have := hp.length_eq
        omega
      have hD : ∀ i, i < LL.length → LL.getD i [] ∈ LL := fun i hi => by
        rw [List.getD_eq_getElem?_getD, List.getElem?_eq_getElem hi]
        exact List.getElem_mem hi
      have hr := n_rngS2 (n := LL.length) (by omega)
      have hcomp : ∀ b, evE ic_in_order_2 b [sI (d : Int), s1, some (false, .list (LL.map (encLs en))), s3, j4, j5] = some (true, .list (((List.range (LL.length / 2)).map fun i => mgT fx fy (LL.getD (2 * i) []) (LL.getD (2 * i + 1) [])).map (encLs en))) := fun b => by
        unfold ic_in_order_2
        simp only [q_wipeR_1, q_wipeR_2, q_asg_1, q_asg_2, q_asg_3, q_asg_4, q_asg_5, q_asg_6, q_asg_7, q_asgR_1, q_ownedArg_1, q_ownedArgs_1, q_ownedArgs_2, q_itemsOf_1, q_itemsOf_2, q_evE_1, q_evE_2, q_evE_3, q_evE_4, q_evE_5, q_evE_6, q_evE_7, q_evE_8, q_evE_9, q_evE_10, q_evE_11, q_evE_12, q_evE_13, q_evE_14, q_evE_15, q_evE_16, q_evE_17, q_evE_18, q_evE_19, q_evE_20, q_evEs_1, q_evEs_2, q_evP_1, q_evP_2, q_evC_1, q_evC_2, q_evI_1, q_evI_2, q_evRet_1, q_evS_1, q_evS_2, q_evS_3, q_evS_4, q_evS_5, q_evS_6, q_evS_7, q_evS_8, q_evS_9, q_evS_10, q_evS_11, q_evS_12, q_evS_13, q_evS_14, q_evS_15, q_evS_16, q_evSs_1, q_evSs_2, q_oa_0, q_rt_0, q_oa_1, q_rt_1, q_oa_2, q_rt_2, q_oa_3, q_rt_3, q_oa_4, q_rt_4, q_oa_5, q_rt_5, q_oa_6, q_rt_6, q_oa_7, q_rt_7, q_oa_8, q_rt_8, q_oa_9, q_rt_9, q_oa_10, q_rt_10, q_oa_11, q_rt_11, q_oa_12, q_rt_12, q_oa_13, q_rt_13, q_oa_14, q_rt_14, q_oa_15, q_rt_15, q_oa_16, q_rt_16, q_oa_17, q_rt_17, q_oa_18, q_rt_18, q_ar_0, q_ar_1, q_ar_2, asI_i, q_ret, q_bind, q_bindn, q_map, q_mapn, q_evT, q_own, startR, List.getElem?_cons_succ, List.getElem?_cons_zero, List.set_cons_succ, List.set_cons_zero, List.map_cons, List.map_nil, List.replicate, List.length_cons, List.length_nil, List.append_eq, List.nil_append, List.cons_append, Bool.and_true, Bool.true_and, Bool.and_false, Bool.false_and, Bool.not_true, Bool.not_false, if_true, if_false, reduceCtorEq, Nat.reduceSub, Nat.reduceAdd, Nat.reduceLeDiff, Bool.false_eq_true, Bool.or_false, Bool.false_or, ite_true, ite_false, lenOk_0, lenOk_1, lenOk_2, lenOk_3, lenOk_4, lenOk_5, lenOk_6, lenOk_7, lenOk_8, i_add, i_sub, i_neg, i_asI, N_int, i_inti, i_intb, decide_true, decide_false, hlenL, hr]
        rw [compGo_map (enc := fun i => PyData.int ((2 * i : Nat) : Int)) (en2 := encLs en) (fun i => some (mgT fx fy (LL.getD (2 * i) []) (LL.getD (2 * i + 1) []))), filterMap_some]
        · rfl
        intro i hi
        rw [List.mem_range] at hi
        have i1 := ix_getA (encLs en) [] (l := LL) (k := 2 * i) (by omega)
        have i2 := ix_getA (encLs en) [] (l := LL) (k := 2 * i + 1) (by omega)
        have e2 : ((2 * i + 1 : Nat) : Int) = ((2 * i : Nat) : Int) + 1 := by omega
        rw [e2] at i2
        obtain ⟨a1, a2⟩ := hin _ (hD (2 * i) (by omega))
        obtain ⟨b1, b2⟩ := hin _ (hD (2 * i + 1) (by omega))
        have em := merged_is h hd a1 b1 hk b2 a2
        have em : f_merged [.int (d : Int), encLs en (LL.getD (2 * i) []), encLs en (LL.getD (2 * i + 1) [])] = some (true, .list ((mgT fx fy (LL.getD (2 * i) []) (LL.getD (2 * i + 1) [])).map en)) := em
        simp only [q_wipeR_1, q_wipeR_2, q_asg_1, q_asg_2, q_asg_3, q_asg_4, q_asg_5, q_asg_6, q_asg_7, q_asgR_1, q_ownedArg_1, q_ownedArgs_1, q_ownedArgs_2, q_itemsOf_1, q_itemsOf_2, q_evE_1, q_evE_2, q_evE_3, q_evE_4, q_evE_5, q_evE_6, q_evE_7, q_evE_8, q_evE_9, q_evE_10, q_evE_11, q_evE_12, q_evE_13, q_evE_14, q_evE_15, q_evE_16, q_evE_17, q_evE_18, q_evE_19, q_evE_20, q_evEs_1, q_evEs_2, q_evP_1, q_evP_2, q_evC_1, q_evC_2, q_evI_1, q_evI_2, q_evRet_1, q_evS_1, q_evS_2, q_evS_3, q_evS_4, q_evS_5, q_evS_6, q_evS_7, q_evS_8, q_evS_9, q_evS_10, q_evS_11, q_evS_12, q_evS_13, q_evS_14, q_evS_15, q_evS_16, q_evSs_1, q_evSs_2, q_oa_0, q_rt_0, q_oa_1, q_rt_1, q_oa_2, q_rt_2, q_oa_3, q_rt_3, q_oa_4, q_rt_4, q_oa_5, q_rt_5, q_oa_6, q_rt_6, q_oa_7, q_rt_7, q_oa_8, q_rt_8, q_oa_9, q_rt_9, q_oa_10, q_rt_10, q_oa_11, q_rt_11, q_oa_12, q_rt_12, q_oa_13, q_rt_13, q_oa_14, q_rt_14, q_oa_15, q_rt_15, q_oa_16, q_rt_16, q_oa_17, q_rt_17, q_oa_18, q_rt_18, q_ar_0, q_ar_1, q_ar_2, asI_i, q_ret, q_bind, q_bindn, q_map, q_mapn, q_evT, q_own, startR, List.getElem?_cons_succ, List.getElem?_cons_zero, List.set_cons_succ, List.set_cons_zero, List.map_cons, List.map_nil, List.replicate, List.length_cons, List.length_nil, List.append_eq, List.nil_append, List.cons_append, Bool.and_true, Bool.true_and, Bool.and_false, Bool.false_and, Bool.not_true, Bool.not_false, if_true, if_false, reduceCtorEq, Nat.reduceSub, Nat.reduceAdd, Nat.reduceLeDiff, Bool.false_eq_true, Bool.or_false, Bool.false_or, ite_true, ite_false, lenOk_0, lenOk_1, lenOk_2, lenOk_3, lenOk_4, lenOk_5, lenOk_6, lenOk_7, lenOk_8, i_add, i_sub, i_neg, i_asI, N_int, i_inti, i_intb, decide_true, decide_false, i1, i2, em]
        rfl
      have hlast := ix_last (encLs en) [] (l := LL) (by omega)
      have hmod : evBin .mod (.int (LL.length : Int)) (.int 2) = some (false, .int ((LL.length : Int) % 2)) := i_mod (by decide)
      have hout : ∃ j4' j5', blk FUEL ib_in_order_3 [sI (d : Int), s1, some (false, .list (LL.map (encLs en))), s3, j4, j5] = some (.nx [sI (d : Int), s1, some (false, .list ((passT fx fy LL).map (encLs en))), s3, j4', j5']) := by
        rw [pass_ix]
        by_cases c2 : LL.length % 2 = 1
        · have cc : decide ((LL.length : Int) % 2 = 1) = true := decide_eq_true (by omega)
          have hlk : lenOk ((((List.range (LL.length / 2)).map fun i => mgT fx fy (LL.getD (2 * i) []) (LL.getD (2 * i + 1) [])).map (encLs en)).length + 1) = true := lenOk_of (by rw [List.length_map, List.length_map, List.length_range]; omega)
          rw [if_pos c2, List.map_append]
          refine ⟨?_, j5, ?_⟩
          rotate_left
          · unfold blk ib_in_order_3
            simp only [q_wipeR_1, q_wipeR_2, q_asg_1, q_asg_2, q_asg_3, q_asg_4, q_asg_5, q_asg_6, q_asg_7, q_asgR_1, q_ownedArg_1, q_ownedArgs_1, q_ownedArgs_2, q_itemsOf_1, q_itemsOf_2, q_evE_1, q_evE_2, q_evE_3, q_evE_4, q_evE_5, q_evE_6, q_evE_7, q_evE_8, q_evE_9, q_evE_10, q_evE_11, q_evE_12, q_evE_13, q_evE_14, q_evE_15, q_evE_16, q_evE_17, q_evE_18, q_evE_19, q_evE_20, q_evEs_1, q_evEs_2, q_evP_1, q_evP_2, q_evC_1, q_evC_2, q_evI_1, q_evI_2, q_evRet_1, q_evS_1, q_evS_2, q_evS_3, q_evS_4, q_evS_5, q_evS_6, q_evS_7, q_evS_8, q_evS_9, q_evS_10, q_evS_11, q_evS_12, q_evS_13, q_evS_14, q_evS_15, q_evS_16, q_evSs_1, q_evSs_2, q_oa_0, q_rt_0, q_oa_1, q_rt_1, q_oa_2, q_rt_2, q_oa_3, q_rt_3, q_oa_4, q_rt_4, q_oa_5, q_rt_5, q_oa_6, q_rt_6, q_oa_7, q_rt_7, q_oa_8, q_rt_8, q_oa_9, q_rt_9, q_oa_10, q_rt_10, q_oa_11, q_rt_11, q_oa_12, q_rt_12, q_oa_13, q_rt_13, q_oa_14, q_rt_14, q_oa_15, q_rt_15, q_oa_16, q_rt_16, q_oa_17, q_rt_17, q_oa_18, q_rt_18, q_ar_0, q_ar_1, q_ar_2, asI_i, q_ret, q_bind, q_bindn, q_map, q_mapn, q_evT, q_own, startR, List.getElem?_cons_succ, List.getElem?_cons_zero, List.set_cons_succ, List.set_cons_zero, List.map_cons, List.map_nil, List.replicate, List.length_cons, List.length_nil, List.append_eq, List.nil_append, List.cons_append, Bool.and_true, Bool.true_and, Bool.and_false, Bool.false_and, Bool.not_true, Bool.not_false, if_true, if_false, reduceCtorEq, Nat.reduceSub, Nat.reduceAdd, Nat.reduceLeDiff, Bool.false_eq_true, Bool.or_false, Bool.false_or, ite_true, ite_false, lenOk_0, lenOk_1, lenOk_2, lenOk_3, lenOk_4, lenOk_5, lenOk_6, lenOk_7, lenOk_8, i_add, i_sub, i_neg, i_asI, N_int, i_inti, i_intb, decide_true, decide_false, hcomp, hlenL, hmod, i_eq, cc, i_neg, hlast, hlk]
            rfl
        · have cc : decide ((LL.length : Int) % 2 = 1) = false := decide_eq_false (by omega)
          rw [if_neg c2, List.append_nil]
          refine ⟨?_, j5, ?_⟩
          rotate_left
          · unfold blk ib_in_order_3
            simp only [q_wipeR_1, q_wipeR_2, q_asg_1, q_asg_2, q_asg_3, q_asg_4, q_asg_5, q_asg_6, q_asg_7, q_asgR_1, q_ownedArg_1, q_ownedArgs_1, q_ownedArgs_2, q_itemsOf_1, q_itemsOf_2, q_evE_1, q_evE_2, q_evE_3, q_evE_4, q_evE_5, q_evE_6, q_evE_7, q_evE_8, q_evE_9, q_evE_10, q_evE_11, q_evE_12, q_evE_13, q_evE_14, q_evE_15, q_evE_16, q_evE_17, q_evE_18, q_evE_19, q_evE_20, q_evEs_1, q_evEs_2, q_evP_1, q_evP_2, q_evC_1, q_evC_2, q_evI_1, q_evI_2, q_evRet_1, q_evS_1, q_evS_2, q_evS_3, q_evS_4, q_evS_5, q_evS_6, q_evS_7, q_evS_8, q_evS_9, q_evS_10, q_evS_11, q_evS_12, q_evS_13, q_evS_14, q_evS_15, q_evS_16, q_evSs_1, q_evSs_2, q_oa_0, q_rt_0, q_oa_1, q_rt_1, q_oa_2, q_rt_2, q_oa_3, q_rt_3, q_oa_4, q_rt_4, q_oa_5, q_rt_5, q_oa_6, q_rt_6, q_oa_7, q_rt_7, q_oa_8, q_rt_8, q_oa_9, q_rt_9, q_oa_10, q_rt_10, q_oa_11, q_rt_11, q_oa_12, q_rt_12, q_oa_13, q_rt_13, q_oa_14, q_rt_14, q_oa_15, q_rt_15, q_oa_16, q_rt_16, q_oa_17, q_rt_17, q_oa_18, q_rt_18, q_ar_0, q_ar_1, q_ar_2, asI_i, q_ret, q_bind, q_bindn, q_map, q_mapn, q_evT, q_own, startR, List.getElem?_cons_succ, List.getElem?_cons_zero, List.set_cons_succ, List.set_cons_zero, List.map_cons, List.map_nil, List.replicate, List.length_cons, List.length_nil, List.append_eq, List.nil_append, List.cons_append, Bool.and_true, Bool.true_and, Bool.and_false, Bool.false_and, Bool.not_true, Bool.not_false, if_true, if_false, reduceCtorEq, Nat.reduceSub, Nat.reduceAdd, Nat.reduceLeDiff, Bool.false_eq_true, Bool.or_false, Bool.false_or, ite_true, ite_false, lenOk_0, lenOk_1, lenOk_2, lenOk_3, lenOk_4, lenOk_5, lenOk_6, lenOk_7, lenOk_8, i_add, i_sub, i_neg, i_asI, N_int, i_inti, i_intb, decide_true, decide_false, hcomp, hlenL, hmod, i_eq, cc]
            rfl
      obtain ⟨j4', j5', hb⟩ := hout
      have hpl := pass_len (fx := fx) (fy := fy) LL
      obtain ⟨LL', k4, k5, r1, r2, r3, r4⟩ := ih (passT fx fy LL).length (passT fx fy LL) j4' j5' rfl (by omega) (by omega) ((pass_perm LL).trans hp) (pass_so LL hs)
      exact ⟨LL', k4, k5, r1, r2, r3, (wh_true tv hb).trans r4⟩
    · have tv : tst iw_in_order_3 [sI (d : Int), s1, some (false, .list (LL.map (encLs en))), s3, j4, j5] = some false := by
        have cc : decide ((1 : Int) < (LL.length : Int)) = false := decide_eq_false (by omega)
        unfold tst iw_in_order_3
        simp only [q_wipeR_1, q_wipeR_2, q_asg_1, q_asg_2, q_asg_3, q_asg_4, q_asg_5, q_asg_6, q_asg_7, q_asgR_1, q_ownedArg_1, q_ownedArgs_1, q_ownedArgs_2, q_itemsOf_1, q_itemsOf_2, q_evE_1, q_evE_2, q_evE_3, q_evE_4, q_evE_5, q_evE_6, q_evE_7, q_evE_8, q_evE_9, q_evE_10, q_evE_11, q_evE_12, q_evE_13, q_evE_14, q_evE_15, q_evE_16, q_evE_17, q_evE_18, q_evE_19, q_evE_20, q_evEs_1, q_evEs_2, q_evP_1, q_evP_2, q_evC_1, q_evC_2, q_evI_1, q_evI_2, q_evRet_1, q_evS_1, q_evS_2, q_evS_3, q_evS_4, q_evS_5, q_evS_6, q_evS_7, q_evS_8, q_evS_9, q_evS_10, q_evS_11, q_evS_12, q_evS_13, q_evS_14, q_evS_15, q_evS_16, q_evSs_1, q_evSs_2, q_oa_0, q_rt_0, q_oa_1, q_rt_1, q_oa_2, q_rt_2, q_oa_3, q_rt_3, q_oa_4, q_rt_4, q_oa_5, q_rt_5, q_oa_6, q_rt_6, q_oa_7, q_rt_7, q_oa_8, q_rt_8, q_oa_9, q_rt_9, q_oa_10, q_rt_10, q_oa_11, q_rt_11, q_oa_12, q_rt_12, q_oa_13, q_rt_13, q_oa_14, q_rt_14, q_oa_15, q_rt_15, q_oa_16, q_rt_16, q_oa_17, q_rt_17, q_oa_18, q_rt_18, q_ar_0, q_ar_1, q_ar_2, asI_i, q_ret, q_bind, q_bindn, q_map, q_mapn, q_evT, q_own, startR, List.getElem?_cons_succ, List.getElem?_cons_zero, List.set_cons_succ, List.set_cons_zero, List.map_cons, List.map_nil, List.replicate, List.length_cons, List.length_nil, List.append_eq, List.nil_append, List.cons_append, Bool.and_true, Bool.true_and, Bool.and_false, Bool.false_and, Bool.not_true, Bool.not_false, if_true, if_false, reduceCtorEq, Nat.reduceSub, Nat.reduceAdd, Nat.reduceLeDiff, Bool.false_eq_true, Bool.or_false, Bool.false_or, ite_true, ite_false, lenOk_0, lenOk_1, lenOk_2, lenOk_3, lenOk_4, lenOk_5, lenOk_6, lenOk_7, lenOk_8, i_add, i_sub, i_neg, i_asI, N_int, i_inti, i_intb, decide_true, decide_false, hlenL, i_gt, cc]
      exact ⟨LL, j4, j5, by omega, hp, hs, wh_false tv⟩
theorem inord_is [NSq d] (h : XY d en fx fy) {k : Nat} {l : List α} (hd : d < 64) (hl : ∀ u ∈ l, SzA k fx fy u) (hk : k ≤ 1900) (hn : l.length ≤ 400) : ∃ O : List α, O.Perm l ∧ SoT fx fy O ∧ f_in_order [.int (d : Int), .list (l.map en)] = some (true, .list (O.map en)) := by
  have e1 : ∀ (b : Bool) (s2 s3 s4 s5 : Option R), evE ic_in_order_1 b [sI (d : Int), some (false, .list (l.map en)), s2, s3, s4, s5] = some (true, .list ((l.map fun x => [x]).map (encLs en))) := fun b s2 s3 s4 s5 => by
    unfold ic_in_order_1
    simp only [q_wipeR_1, q_wipeR_2, q_asg_1, q_asg_2, q_asg_3, q_asg_4, q_asg_5, q_asg_6, q_asg_7, q_asgR_1, q_ownedArg_1, q_ownedArgs_1, q_ownedArgs_2, q_itemsOf_1, q_itemsOf_2, q_evE_1, q_evE_2, q_evE_3, q_evE_4, q_evE_5, q_evE_6, q_evE_7, q_evE_8, q_evE_9, q_evE_10, q_evE_11, q_evE_12, q_evE_13, q_evE_14, q_evE_15, q_evE_16, q_evE_17, q_evE_18, q_evE_19, q_evE_20, q_evEs_1, q_evEs_2, q_evP_1, q_evP_2, q_evC_1, q_evC_2, q_evI_1, q_evI_2, q_evRet_1, q_evS_1, q_evS_2, q_evS_3, q_evS_4, q_evS_5, q_evS_6, q_evS_7, q_evS_8, q_evS_9, q_evS_10, q_evS_11, q_evS_12, q_evS_13, q_evS_14, q_evS_15, q_evS_16, q_evSs_1, q_evSs_2, q_oa_0, q_rt_0, q_oa_1, q_rt_1, q_oa_2, q_rt_2, q_oa_3, q_rt_3, q_oa_4, q_rt_4, q_oa_5, q_rt_5, q_oa_6, q_rt_6, q_oa_7, q_rt_7, q_oa_8, q_rt_8, q_oa_9, q_rt_9, q_oa_10, q_rt_10, q_oa_11, q_rt_11, q_oa_12, q_rt_12, q_oa_13, q_rt_13, q_oa_14, q_rt_14, q_oa_15, q_rt_15, q_oa_16, q_rt_16, q_oa_17, q_rt_17, q_oa_18, q_rt_18, q_ar_0, q_ar_1, q_ar_2, asI_i, q_ret, q_bind, q_bindn, q_map, q_mapn, q_evT, q_own, startR, List.getElem?_cons_succ, List.getElem?_cons_zero, List.set_cons_succ, List.set_cons_zero, List.map_cons, List.map_nil, List.replicate, List.length_cons, List.length_nil, List.append_eq, List.nil_append, List.cons_append, Bool.and_true, Bool.true_and, Bool.and_false, Bool.false_and, Bool.not_true, Bool.not_false, if_true, if_false, reduceCtorEq, Nat.reduceSub, Nat.reduceAdd, Nat.reduceLeDiff, Bool.false_eq_true, Bool.or_false, Bool.false_or, ite_true, ite_false, lenOk_0, lenOk_1, lenOk_2, lenOk_3, lenOk_4, lenOk_5, lenOk_6, lenOk_7, lenOk_8, i_add, i_sub, i_neg, i_asI, N_int, i_inti, i_intb, decide_true, decide_false]
    rw [compGo_map (en2 := encLs en) (fun x => some [x]), filterMap_some]
    · rfl
    intro x hx
    simp only [q_wipeR_1, q_wipeR_2, q_asg_1, q_asg_2, q_asg_3, q_asg_4, q_asg_5, q_asg_6, q_asg_7, q_asgR_1, q_ownedArg_1, q_ownedArgs_1, q_ownedArgs_2, q_itemsOf_1, q_itemsOf_2, q_evE_1, q_evE_2, q_evE_3, q_evE_4, q_evE_5, q_evE_6, q_evE_7, q_evE_8, q_evE_9, q_evE_10, q_evE_11, q_evE_12, q_evE_13, q_evE_14, q_evE_15, q_evE_16, q_evE_17, q_evE_18, q_evE_19, q_evE_20, q_evEs_1, q_evEs_2, q_evP_1, q_evP_2, q_evC_1, q_evC_2, q_evI_1, q_evI_2, q_evRet_1, q_evS_1, q_evS_2, q_evS_3, q_evS_4, q_evS_5, q_evS_6, q_evS_7, q_evS_8, q_evS_9, q_evS_10, q_evS_11, q_evS_12, q_evS_13, q_evS_14, q_evS_15, q_evS_16, q_evSs_1, q_evSs_2, q_oa_0, q_rt_0, q_oa_1, q_rt_1, q_oa_2, q_rt_2, q_oa_3, q_rt_3, q_oa_4, q_rt_4, q_oa_5, q_rt_5, q_oa_6, q_rt_6, q_oa_7, q_rt_7, q_oa_8, q_rt_8, q_oa_9, q_rt_9, q_oa_10, q_rt_10, q_oa_11, q_rt_11, q_oa_12, q_rt_12, q_oa_13, q_rt_13, q_oa_14, q_rt_14, q_oa_15, q_rt_15, q_oa_16, q_rt_16, q_oa_17, q_rt_17, q_oa_18, q_rt_18, q_ar_0, q_ar_1, q_ar_2, asI_i, q_ret, q_bind, q_bindn, q_map, q_mapn, q_evT, q_own, startR, List.getElem?_cons_succ, List.getElem?_cons_zero, List.set_cons_succ, List.set_cons_zero, List.map_cons, List.map_nil, List.replicate, List.length_cons, List.length_nil, List.append_eq, List.nil_append, List.cons_append, Bool.and_true, Bool.true_and, Bool.and_false, Bool.false_and, Bool.not_true, Bool.not_false, if_true, if_false, reduceCtorEq, Nat.reduceSub, Nat.reduceAdd, Nat.reduceLeDiff, Bool.false_eq_true, Bool.or_false, Bool.false_or, ite_true, ite_false, lenOk_0, lenOk_1, lenOk_2, lenOk_3, lenOk_4, lenOk_5, lenOk_6, lenOk_7, lenOk_8, i_add, i_sub, i_neg, i_asI, N_int, i_inti, i_intb, decide_true, decide_false]
    rfl
  have hf : (l.map fun x => [x]).flatten = l := by
    clear e1 hn hl
    induction l with
    | nil => rfl
    | cons a l ih => rw [List.map_cons, List.flatten_cons, ih]; rfl
  obtain ⟨LL, j4, j5, r1, r2, r3, r4⟩ := inord_wh (s1 := some (false, .list (l.map en))) (s3 := none) h hd hl hk hn FUEL l.length (l.map fun x => [x]) none none (by rw [List.length_map]) (by show _ ≤ 1000000000000000; omega) hn (by rw [hf]) (fun r hr => by
    obtain ⟨x, -, rfl⟩ := List.mem_map.mp hr
    exact List.pairwise_singleton _ _)
  have r4 : whileGo (tst iw_in_order_3) (blk FUEL ib_in_order_3) FUEL [some (false, .int (d : Int)), some (false, .list (l.map en)), some (false, .list ((l.map fun x => [x]).map (encLs en))), none, none, none] = _ := r4
  have hlenL : evBI .len [.list (LL.map (encLs en))] = some (false, .int (LL.length : Nat)) := by
    show some (false, PyData.int _) = _
    rw [List.length_map]
  cases LL with
  | nil =>
    refine ⟨[], r2, .nil, ?_⟩
    unfold f_in_order evDef ir_in_order
    simp only [q_wipeR_1, q_wipeR_2, q_asg_1, q_asg_2, q_asg_3, q_asg_4, q_asg_5, q_asg_6, q_asg_7, q_asgR_1, q_ownedArg_1, q_ownedArgs_1, q_ownedArgs_2, q_itemsOf_1, q_itemsOf_2, q_evE_1, q_evE_2, q_evE_3, q_evE_4, q_evE_5, q_evE_6, q_evE_7, q_evE_8, q_evE_9, q_evE_10, q_evE_11, q_evE_12, q_evE_13, q_evE_14, q_evE_15, q_evE_16, q_evE_17, q_evE_18, q_evE_19, q_evE_20, q_evEs_1, q_evEs_2, q_evP_1, q_evP_2, q_evC_1, q_evC_2, q_evI_1, q_evI_2, q_evRet_1, q_evS_1, q_evS_2, q_evS_3, q_evS_4, q_evS_5, q_evS_6, q_evS_7, q_evS_8, q_evS_9, q_evS_10, q_evS_11, q_evS_12, q_evS_13, q_evS_14, q_evS_15, q_evS_16, q_evSs_1, q_evSs_2, q_oa_0, q_rt_0, q_oa_1, q_rt_1, q_oa_2, q_rt_2, q_oa_3, q_rt_3, q_oa_4, q_rt_4, q_oa_5, q_rt_5, q_oa_6, q_rt_6, q_oa_7, q_rt_7, q_oa_8, q_rt_8, q_oa_9, q_rt_9, q_oa_10, q_rt_10, q_oa_11, q_rt_11, q_oa_12, q_rt_12, q_oa_13, q_rt_13, q_oa_14, q_rt_14, q_oa_15, q_rt_15, q_oa_16, q_rt_16, q_oa_17, q_rt_17, q_oa_18, q_rt_18, q_ar_0, q_ar_1, q_ar_2, asI_i, q_ret, q_bind, q_bindn, q_map, q_mapn, q_evT, q_own, startR, List.getElem?_cons_succ, List.getElem?_cons_zero, List.set_cons_succ, List.set_cons_zero, List.map_cons, List.map_nil, List.replicate, List.length_cons, List.length_nil, List.append_eq, List.nil_append, List.cons_append, Bool.and_true, Bool.true_and, Bool.and_false, Bool.false_and, Bool.not_true, Bool.not_false, if_true, if_false, reduceCtorEq, Nat.reduceSub, Nat.reduceAdd, Nat.reduceLeDiff, Bool.false_eq_true, Bool.or_false, Bool.false_or, ite_true, ite_false, lenOk_0, lenOk_1, lenOk_2, lenOk_3, lenOk_4, lenOk_5, lenOk_6, lenOk_7, lenOk_8, i_add, i_sub, i_neg, i_asI, N_int, i_inti, i_intb, decide_true, decide_false, e1, r4, hlenL, i_eq]
    rfl
  | cons a r =>
    have hr : r = [] := by
      rw [List.length_cons] at r1
      exact List.eq_nil_of_length_eq_zero (by omega)
    subst hr
    have e2 : evIx (.list ([a].map (encLs en))) (.int 0) = some (false, .list (a.map en)) := ix_getA (encLs en) [] (l := [a]) (k := 0) (by simp)
    have e3 : evBI .list [encLs en a] = some (true, .list (a.map en)) := rfl
    refine ⟨a, ?_, r3 a (by simp), ?_⟩
    · have : [a].flatten = a := by simp
      rw [this] at r2; exact r2
    have c1 : decide (((([a] : List (List α)).length : Nat) : Int) = 0) = false := by simp
    unfold f_in_order evDef ir_in_order
    have hlen1 : evBI .len [.list [encLs en a]] = some (false, .int 1) := rfl
    have c0 : decide ((1 : Int) = 0) = false := rfl
    simp only [q_wipeR_1, q_wipeR_2, q_asg_1, q_asg_2, q_asg_3, q_asg_4, q_asg_5, q_asg_6, q_asg_7, q_asgR_1, q_ownedArg_1, q_ownedArgs_1, q_ownedArgs_2, q_itemsOf_1, q_itemsOf_2, q_evE_1, q_evE_2, q_evE_3, q_evE_4, q_evE_5, q_evE_6, q_evE_7, q_evE_8, q_evE_9, q_evE_10, q_evE_11, q_evE_12, q_evE_13, q_evE_14, q_evE_15, q_evE_16, q_evE_17, q_evE_18, q_evE_19, q_evE_20, q_evEs_1, q_evEs_2, q_evP_1, q_evP_2, q_evC_1, q_evC_2, q_evI_1, q_evI_2, q_evRet_1, q_evS_1, q_evS_2, q_evS_3, q_evS_4, q_evS_5, q_evS_6, q_evS_7, q_evS_8, q_evS_9, q_evS_10, q_evS_11, q_evS_12, q_evS_13, q_evS_14, q_evS_15, q_evS_16, q_evSs_1, q_evSs_2, q_oa_0, q_rt_0, q_oa_1, q_rt_1, q_oa_2, q_rt_2, q_oa_3, q_rt_3, q_oa_4, q_rt_4, q_oa_5, q_rt_5, q_oa_6, q_rt_6, q_oa_7, q_rt_7, q_oa_8, q_rt_8, q_oa_9, q_rt_9, q_oa_10, q_rt_10, q_oa_11, q_rt_11, q_oa_12, q_rt_12, q_oa_13, q_rt_13, q_oa_14, q_rt_14, q_oa_15, q_rt_15, q_oa_16, q_rt_16, q_oa_17, q_rt_17, q_oa_18, q_rt_18, q_ar_0, q_ar_1, q_ar_2, asI_i, q_ret, q_bind, q_bindn, q_map, q_mapn, q_evT, q_own, startR, List.getElem?_cons_succ, List.getElem?_cons_zero, List.set_cons_succ, List.set_cons_zero, List.map_cons, List.map_nil, List.replicate, List.length_cons, List.length_nil, List.append_eq, List.nil_append, List.cons_append, Bool.and_true, Bool.true_and, Bool.and_false, Bool.false_and, Bool.not_true, Bool.not_false, if_true, if_false, reduceCtorEq, Nat.reduceSub, Nat.reduceAdd, Nat.reduceLeDiff, Bool.false_eq_true, Bool.or_false, Bool.false_or, ite_true, ite_false, lenOk_0, lenOk_1, lenOk_2, lenOk_3, lenOk_4, lenOk_5, lenOk_6, lenOk_7, lenOk_8, i_add, i_sub, i_neg, i_asI, N_int, i_inti, i_intb, decide_true, decide_false, e1, r4, hlen1, i_eq, c0, ix_l0, e3]
end
end K83

set_option Elab.async false
set_option linter.all false
set_option maxRecDepth 100000
set_option maxHeartbeats 4000000
namespace K83
open PySem L2 PV Qu LL
open Classical
variable {d : Nat}
/-! ### the program's lying lines -/
def encEd (e : Ed d) : PyData := .tuple [L e.1, L e.2.1, L e.2.2]
def encLn (u : Ln d) : PyData := .tuple [L u.1, L u.2.1, L u.2.2]
def edgesT (t : Tl d) : List (Ed d) := [(t.1, t.2.1, t.1 + t.2.2.1), (t.1, t.2.1 + t.2.2.2, t.1 + t.2.2.1)]
def edges (T : List (Tl d)) : List (Ed d) := T.flatMap edgesT
theorem right_of_is {t : Tl d} {k : Nat} (h : SzT k t) (hk : k ≤ 4000) : f_right_of [encTl t] = some (false, L (t.1 + t.2.2.1)) := by
  unfold f_right_of evDef ir_right_of
  simp only [q_wipeR_1, q_wipeR_2, q_asg_1, q_asg_2, q_asg_3, q_asg_4, q_asg_5, q_asg_6, q_asg_7, q_asgR_1, q_ownedArg_1, q_ownedArgs_1, q_ownedArgs_2, q_itemsOf_1, q_itemsOf_2, q_evE_1, q_evE_2, q_evE_3, q_evE_4, q_evE_5, q_evE_6, q_evE_7, q_evE_8, q_evE_9, q_evE_10, q_evE_11, q_evE_12, q_evE_13, q_evE_14, q_evE_15, q_evE_16, q_evE_17, q_evE_18, q_evE_19, q_evE_20, q_evEs_1, q_evEs_2, q_evP_1, q_evP_2, q_evC_1, q_evC_2, q_evI_1, q_evI_2, q_evRet_1, q_evS_1, q_evS_2, q_evS_3, q_evS_4, q_evS_5, q_evS_6, q_evS_7, q_evS_8, q_evS_9, q_evS_10, q_evS_11, q_evS_12, q_evS_13, q_evS_14, q_evS_15, q_evS_16, q_evSs_1, q_evSs_2, q_oa_0, q_rt_0, q_oa_1, q_rt_1, q_oa_2, q_rt_2, q_oa_3, q_rt_3, q_oa_4, q_rt_4, q_oa_5, q_rt_5, q_oa_6, q_rt_6, q_oa_7, q_rt_7, q_oa_8, q_rt_8, q_oa_9, q_rt_9, q_oa_10, q_rt_10, q_oa_11, q_rt_11, q_oa_12, q_rt_12, q_oa_13, q_rt_13, q_oa_14, q_rt_14, q_oa_15, q_rt_15, q_oa_16, q_rt_16, q_oa_17, q_rt_17, q_oa_18, q_rt_18, q_ar_0, q_ar_1, q_ar_2, asI_i, q_ret, q_bind, q_bindn, q_map, q_mapn, q_evT, q_own, startR, List.getElem?_cons_succ, List.getElem?_cons_zero, List.set_cons_succ, List.set_cons_zero, List.map_cons, List.map_nil, List.replicate, List.length_cons, List.length_nil, List.append_eq, List.nil_append, List.cons_append, Bool.and_true, Bool.true_and, Bool.and_false, Bool.false_and, Bool.not_true, Bool.not_false, if_true, if_false, reduceCtorEq, Nat.reduceSub, Nat.reduceAdd, Nat.reduceLeDiff, Bool.false_eq_true, Bool.or_false, Bool.false_or, ite_true, ite_false, lenOk_0, lenOk_1, lenOk_2, lenOk_3, lenOk_4, lenOk_5, lenOk_6, lenOk_7, lenOk_8, i_add, i_sub, i_neg, i_asI, N_int, i_inti, i_intb, decide_true, decide_false, ixT0, ixT2, p_plus_is h.1 h.2.2.1 (show k + k ≤ 8800 by omega)]
theorem top_of_is {t : Tl d} {k : Nat} (h : SzT k t) (hk : k ≤ 4000) : f_top_of [encTl t] = some (false, L (t.2.1 + t.2.2.2)) := by
  unfold f_top_of evDef ir_top_of
  simp only [q_wipeR_1, q_wipeR_2, q_asg_1, q_asg_2, q_asg_3, q_asg_4, q_asg_5, q_asg_6, q_asg_7, q_asgR_1, q_ownedArg_1, q_ownedArgs_1, q_ownedArgs_2, q_itemsOf_1, q_itemsOf_2, q_evE_1, q_evE_2, q_evE_3, q_evE_4, q_evE_5, q_evE_6, q_evE_7, q_evE_8, q_evE_9, q_evE_10, q_evE_11, q_evE_12, q_evE_13, q_evE_14, q_evE_15, q_evE_16, q_evE_17, q_evE_18, q_evE_19, q_evE_20, q_evEs_1, q_evEs_2, q_evP_1, q_evP_2, q_evC_1, q_evC_2, q_evI_1, q_evI_2, q_evRet_1, q_evS_1, q_evS_2, q_evS_3, q_evS_4, q_evS_5, q_evS_6, q_evS_7, q_evS_8, q_evS_9, q_evS_10, q_evS_11, q_evS_12, q_evS_13, q_evS_14, q_evS_15, q_evS_16, q_evSs_1, q_evSs_2, q_oa_0, q_rt_0, q_oa_1, q_rt_1, q_oa_2, q_rt_2, q_oa_3, q_rt_3, q_oa_4, q_rt_4, q_oa_5, q_rt_5, q_oa_6, q_rt_6, q_oa_7, q_rt_7, q_oa_8, q_rt_8, q_oa_9, q_rt_9, q_oa_10, q_rt_10, q_oa_11, q_rt_11, q_oa_12, q_rt_12, q_oa_13, q_rt_13, q_oa_14, q_rt_14, q_oa_15, q_rt_15, q_oa_16, q_rt_16, q_oa_17, q_rt_17, q_oa_18, q_rt_18, q_ar_0, q_ar_1, q_ar_2, asI_i, q_ret, q_bind, q_bindn, q_map, q_mapn, q_evT, q_own, startR, List.getElem?_cons_succ, List.getElem?_cons_zero, List.set_cons_succ, List.set_cons_zero, List.map_cons, List.map_nil, List.replicate, List.length_cons, List.length_nil, List.append_eq, List.nil_append, List.cons_append, Bool.and_true, Bool.true_and, Bool.and_false, Bool.false_and, Bool.not_true, Bool.not_false, if_true, if_false, reduceCtorEq, Nat.reduceSub, Nat.reduceAdd, Nat.reduceLeDiff, Bool.false_eq_true, Bool.or_false, Bool.false_or, ite_true, ite_false, lenOk_0, lenOk_1, lenOk_2, lenOk_3, lenOk_4, lenOk_5, lenOk_6, lenOk_7, lenOk_8, i_add, i_sub, i_neg, i_asI, N_int, i_inti, i_intb, decide_true, decide_false, ixT1, ixT3, p_plus_is h.2.1 h.2.2.2 (show k + k ≤ 8800 by omega)]
theorem edges_of_is {t : Tl d} {k : Nat} (h : SzT k t) (hk : k ≤ 4000) : f_edges_of [encTl t] = some (true, .list ((edgesT t).map encEd)) := by
  unfold f_edges_of evDef ir_edges_of
  simp only [q_wipeR_1, q_wipeR_2, q_asg_1, q_asg_2, q_asg_3, q_asg_4, q_asg_5, q_asg_6, q_asg_7, q_asgR_1, q_ownedArg_1, q_ownedArgs_1, q_ownedArgs_2, q_itemsOf_1, q_itemsOf_2, q_evE_1, q_evE_2, q_evE_3, q_evE_4, q_evE_5, q_evE_6, q_evE_7, q_evE_8, q_evE_9, q_evE_10, q_evE_11, q_evE_12, q_evE_13, q_evE_14, q_evE_15, q_evE_16, q_evE_17, q_evE_18, q_evE_19, q_evE_20, q_evEs_1, q_evEs_2, q_evP_1, q_evP_2, q_evC_1, q_evC_2, q_evI_1, q_evI_2, q_evRet_1, q_evS_1, q_evS_2, q_evS_3, q_evS_4, q_evS_5, q_evS_6, q_evS_7, q_evS_8, q_evS_9, q_evS_10, q_evS_11, q_evS_12, q_evS_13, q_evS_14, q_evS_15, q_evS_16, q_evSs_1, q_evSs_2, q_oa_0, q_rt_0, q_oa_1, q_rt_1, q_oa_2, q_rt_2, q_oa_3, q_rt_3, q_oa_4, q_rt_4, q_oa_5, q_rt_5, q_oa_6, q_rt_6, q_oa_7, q_rt_7, q_oa_8, q_rt_8, q_oa_9, q_rt_9, q_oa_10, q_rt_10, q_oa_11, q_rt_11, q_oa_12, q_rt_12, q_oa_13, q_rt_13, q_oa_14, q_rt_14, q_oa_15, q_rt_15, q_oa_16, q_rt_16, q_oa_17, q_rt_17, q_oa_18, q_rt_18, q_ar_0, q_ar_1, q_ar_2, asI_i, q_ret, q_bind, q_bindn, q_map, q_mapn, q_evT, q_own, startR, List.getElem?_cons_succ, List.getElem?_cons_zero, List.set_cons_succ, List.set_cons_zero, List.map_cons, List.map_nil, List.replicate, List.length_cons, List.length_nil, List.append_eq, List.nil_append, List.cons_append, Bool.and_true, Bool.true_and, Bool.and_false, Bool.false_and, Bool.not_true, Bool.not_false, if_true, if_false, reduceCtorEq, Nat.reduceSub, Nat.reduceAdd, Nat.reduceLeDiff, Bool.false_eq_true, Bool.or_false, Bool.false_or, ite_true, ite_false, lenOk_0, lenOk_1, lenOk_2, lenOk_3, lenOk_4, lenOk_5, lenOk_6, lenOk_7, lenOk_8, i_add, i_sub, i_neg, i_asI, N_int, i_inti, i_intb, decide_true, decide_false, ixT0, ixT1, right_of_is h hk, top_of_is h hk]
  rfl
theorem putD_last (l : List PyData) (a x : PyData) : putD (l ++ [a]) (-1) x = some (l ++ [x]) := by
  show (L2.ixN (l ++ [a]).length (-1)).map (fun j => (l ++ [a]).set j x) = _
  unfold L2.ixN
  rw [if_neg (by decide), if_pos (by rw [List.length_append, List.length_singleton]; omega)]
  have e : ((-1 : Int) + ((l ++ [a]).length : Int)).toNat = l.length := by rw [List.length_append, List.length_singleton]; omega
  rw [e]
  show some ((l ++ [a]).set l.length x) = _
  rw [List.set_append_right _ _ (Nat.le_refl _), Nat.sub_self]
  rfl
theorem ix_end {β : Type} (e2 : β → PyData) (l : List β) (a : β) : evIx (.list ((l ++ [a]).map e2)) (.int (-1)) = some (false, e2 a) := by
  have h := ix_last e2 a (l := l ++ [a]) (by simp)
  rw [h]
  congr 3
  rw [List.length_append, List.length_singleton, Nat.add_sub_cancel, List.getD_eq_getElem?_getD, List.getElem?_append_right (Nat.le_refl _), Nat.sub_self]
  rfl
theorem ixN0 (u : Ln d) : evIx (encLn u) (.int 0) = some (false, L u.1) := Eq.trans rfl (Eq.refl _)
theorem ixN1 (u : Ln d) : evIx (encLn u) (.int 1) = some (false, L u.2.1) := Eq.trans rfl (Eq.refl _)
theorem ixN2 (u : Ln d) : evIx (encLn u) (.int 2) = some (false, L u.2.2) := Eq.trans rfl (Eq.refl _)
theorem asgE (a b c : G) (e : Ed d) (ρ : Sl) : asg (.thr a b c) (encEd e) ρ = (asg a (L e.1) ρ).bind fun ρ1 => (asg b (L e.2.1) ρ1).bind fun ρ2 => asg c (L e.2.2) ρ2 := Eq.trans rfl (Eq.refl _)
theorem lines_body [NSq d] {P : List (Ed d)} {F : List (Ln d)} {e : Ed d} {k : Nat} {s1 s2 s3 s4 s5 : Option R} (hd : d < 64) (hF : Swept P F) (heP : ∀ x ∈ P, x.1 < x.2.2) (he : e.1 < e.2.2) (hs : ∀ x ∈ P, x.2.1 < e.2.1 ∨ (x.2.1 = e.2.1 ∧ x.1 ≤ e.1)) (hk : k ≤ 1900) (z1 : Sz k e.1) (z2 : Sz k e.2.2) (zP : ∀ x ∈ P, Sz k x.2.2) (hn : F.length ≤ 1000) :
    ∃ F', Swept (P ++ [e]) F' ∧ F'.length ≤ F.length + 1 ∧ evSs FUEL ib_lying_lines_2 [sI (d : Int), s1, s2, s3, s4, s5, some (true, .list (F.map encLn)), sQ e.1, sQ e.2.1, sQ e.2.2] = some (.nx [sI (d : Int), s1, s2, s3, s4, s5, some (true, .list (F'.map encLn)), sQ e.1, sQ e.2.1, sQ e.2.2]) := by
  have hlen : evBI .len [.list (F.map encLn)] = some (false, .int (F.length : Nat)) := len_mapA F
  have hlk : lenOk ((F.map encLn).length + 1) = true := lenOk_of (by rw [List.length_map]; omega)
  rcases List.eq_nil_or_concat F with h0 | ⟨F', u, h0⟩
  · refine ⟨F ++ [(e.2.1, e.1, e.2.2)], swept_new hF he hs (fun F' u hu => by rw [h0] at hu; simp at hu), by simp, ?_⟩
    have c0 : decide (((F.length : Nat) : Int) = 0) = true := by rw [h0]; rfl
    rw [List.map_append]
    unfold ib_lying_lines_2
    simp only [q_wipeR_1, q_wipeR_2, q_asg_1, q_asg_2, q_asg_3, q_asg_4, q_asg_5, q_asg_6, q_asg_7, q_asgR_1, q_ownedArg_1, q_ownedArgs_1, q_ownedArgs_2, q_itemsOf_1, q_itemsOf_2, q_evE_1, q_evE_2, q_evE_3, q_evE_4, q_evE_5, q_evE_6, q_evE_7, q_evE_8, q_evE_9, q_evE_10, q_evE_11, q_evE_12, q_evE_13, q_evE_14, q_evE_15, q_evE_16, q_evE_17, q_evE_18, q_evE_19, q_evE_20, q_evEs_1, q_evEs_2, q_evP_1, q_evP_2, q_evC_1, q_evC_2, q_evI_1, q_evI_2, q_evRet_1, q_evS_1, q_evS_2, q_evS_3, q_evS_4, q_evS_5, q_evS_6, q_evS_7, q_evS_8, q_evS_9, q_evS_10, q_evS_11, q_evS_12, q_evS_13, q_evS_14, q_evS_15, q_evS_16, q_evSs_1, q_evSs_2, q_oa_0, q_rt_0, q_oa_1, q_rt_1, q_oa_2, q_rt_2, q_oa_3, q_rt_3, q_oa_4, q_rt_4, q_oa_5, q_rt_5, q_oa_6, q_rt_6, q_oa_7, q_rt_7, q_oa_8, q_rt_8, q_oa_9, q_rt_9, q_oa_10, q_rt_10, q_oa_11, q_rt_11, q_oa_12, q_rt_12, q_oa_13, q_rt_13, q_oa_14, q_rt_14, q_oa_15, q_rt_15, q_oa_16, q_rt_16, q_oa_17, q_rt_17, q_oa_18, q_rt_18, q_ar_0, q_ar_1, q_ar_2, asI_i, q_ret, q_bind, q_bindn, q_map, q_mapn, q_evT, q_own, startR, List.getElem?_cons_succ, List.getElem?_cons_zero, List.set_cons_succ, List.set_cons_zero, List.map_cons, List.map_nil, List.replicate, List.length_cons, List.length_nil, List.append_eq, List.nil_append, List.cons_append, Bool.and_true, Bool.true_and, Bool.and_false, Bool.false_and, Bool.not_true, Bool.not_false, if_true, if_false, reduceCtorEq, Nat.reduceSub, Nat.reduceAdd, Nat.reduceLeDiff, Bool.false_eq_true, Bool.or_false, Bool.false_or, ite_true, ite_false, lenOk_0, lenOk_1, lenOk_2, lenOk_3, lenOk_4, lenOk_5, lenOk_6, lenOk_7, lenOk_8, i_add, i_sub, i_neg, i_asI, N_int, i_inti, i_intb, decide_true, decide_false, hlen, i_eq, c0, hlk]
    rfl
  · rw [List.concat_eq_append] at h0
    have c0 : decide (((F.length : Nat) : Int) = 0) = false := by rw [h0]; simp; omega
    have hx : evIx (.list (F.map encLn)) (.int (-1)) = some (false, encLn u) := by rw [h0]; exact ix_end _ _ _
    obtain ⟨ur, hur, r1, r2⟩ := (hF.is.cp u (by rw [h0]; simp)).right
    have zu : Sz k u.2.2 := by rw [← r2]; exact zP ur hur
    by_cases c1 : u.1 = e.2.1
    · have n1 : (!decide (u.1 = e.2.1)) = false := by rw [decide_eq_true c1]; rfl
      have q1 := compare_is hd z1 zu hk
      have q2 := compare_is hd z2 zu hk
      have m1 := sgn_p1 e.1 u.2.2
      have m2 := sgn_p1 e.2.2 u.2.2
      by_cases c2 : u.2.2 < e.1
      · rw [decide_eq_true c2] at m1
        refine ⟨F ++ [(e.2.1, e.1, e.2.2)], swept_new hF he hs (fun G v hv => by
          rw [h0] at hv
          have := (List.append_inj' hv rfl).2
          injection this with this
          rw [← this]; exact .inr c2), by simp, ?_⟩
        rw [List.map_append]
        unfold ib_lying_lines_2
        simp only [q_wipeR_1, q_wipeR_2, q_asg_1, q_asg_2, q_asg_3, q_asg_4, q_asg_5, q_asg_6, q_asg_7, q_asgR_1, q_ownedArg_1, q_ownedArgs_1, q_ownedArgs_2, q_itemsOf_1, q_itemsOf_2, q_evE_1, q_evE_2, q_evE_3, q_evE_4, q_evE_5, q_evE_6, q_evE_7, q_evE_8, q_evE_9, q_evE_10, q_evE_11, q_evE_12, q_evE_13, q_evE_14, q_evE_15, q_evE_16, q_evE_17, q_evE_18, q_evE_19, q_evE_20, q_evEs_1, q_evEs_2, q_evP_1, q_evP_2, q_evC_1, q_evC_2, q_evI_1, q_evI_2, q_evRet_1, q_evS_1, q_evS_2, q_evS_3, q_evS_4, q_evS_5, q_evS_6, q_evS_7, q_evS_8, q_evS_9, q_evS_10, q_evS_11, q_evS_12, q_evS_13, q_evS_14, q_evS_15, q_evS_16, q_evSs_1, q_evSs_2, q_oa_0, q_rt_0, q_oa_1, q_rt_1, q_oa_2, q_rt_2, q_oa_3, q_rt_3, q_oa_4, q_rt_4, q_oa_5, q_rt_5, q_oa_6, q_rt_6, q_oa_7, q_rt_7, q_oa_8, q_rt_8, q_oa_9, q_rt_9, q_oa_10, q_rt_10, q_oa_11, q_rt_11, q_oa_12, q_rt_12, q_oa_13, q_rt_13, q_oa_14, q_rt_14, q_oa_15, q_rt_15, q_oa_16, q_rt_16, q_oa_17, q_rt_17, q_oa_18, q_rt_18, q_ar_0, q_ar_1, q_ar_2, asI_i, q_ret, q_bind, q_bindn, q_map, q_mapn, q_evT, q_own, startR, List.getElem?_cons_succ, List.getElem?_cons_zero, List.set_cons_succ, List.set_cons_zero, List.map_cons, List.map_nil, List.replicate, List.length_cons, List.length_nil, List.append_eq, List.nil_append, List.cons_append, Bool.and_true, Bool.true_and, Bool.and_false, Bool.false_and, Bool.not_true, Bool.not_false, if_true, if_false, reduceCtorEq, Nat.reduceSub, Nat.reduceAdd, Nat.reduceLeDiff, Bool.false_eq_true, Bool.or_false, Bool.false_or, ite_true, ite_false, lenOk_0, lenOk_1, lenOk_2, lenOk_3, lenOk_4, lenOk_5, lenOk_6, lenOk_7, lenOk_8, i_add, i_sub, i_neg, i_asI, N_int, i_inti, i_intb, decide_true, decide_false, hlen, i_eq, c0, hx, ixN0, ixN2, L_ne, n1, i_neg, q1, m1, hlk]
        rfl
      · rw [decide_eq_false c2] at m1
        by_cases c3 : u.2.2 < e.2.2
        · rw [decide_eq_true c3] at m2
          refine ⟨F' ++ [(u.1, u.2.1, e.2.2)], swept_on (h0 ▸ hF) heP he hs c1 (by grind) (.inr ⟨rfl, c3⟩), by rw [h0]; simp, ?_⟩
          have hp : ∀ x, putD (F.map encLn) (-1) x = some (F'.map encLn ++ [x]) := fun x => by rw [h0, List.map_append]; exact putD_last _ _ _
          rw [List.map_append]
          unfold ib_lying_lines_2
          simp only [q_wipeR_1, q_wipeR_2, q_asg_1, q_asg_2, q_asg_3, q_asg_4, q_asg_5, q_asg_6, q_asg_7, q_asgR_1, q_ownedArg_1, q_ownedArgs_1, q_ownedArgs_2, q_itemsOf_1, q_itemsOf_2, q_evE_1, q_evE_2, q_evE_3, q_evE_4, q_evE_5, q_evE_6, q_evE_7, q_evE_8, q_evE_9, q_evE_10, q_evE_11, q_evE_12, q_evE_13, q_evE_14, q_evE_15, q_evE_16, q_evE_17, q_evE_18, q_evE_19, q_evE_20, q_evEs_1, q_evEs_2, q_evP_1, q_evP_2, q_evC_1, q_evC_2, q_evI_1, q_evI_2, q_evRet_1, q_evS_1, q_evS_2, q_evS_3, q_evS_4, q_evS_5, q_evS_6, q_evS_7, q_evS_8, q_evS_9, q_evS_10, q_evS_11, q_evS_12, q_evS_13, q_evS_14, q_evS_15, q_evS_16, q_evSs_1, q_evSs_2, q_oa_0, q_rt_0, q_oa_1, q_rt_1, q_oa_2, q_rt_2, q_oa_3, q_rt_3, q_oa_4, q_rt_4, q_oa_5, q_rt_5, q_oa_6, q_rt_6, q_oa_7, q_rt_7, q_oa_8, q_rt_8, q_oa_9, q_rt_9, q_oa_10, q_rt_10, q_oa_11, q_rt_11, q_oa_12, q_rt_12, q_oa_13, q_rt_13, q_oa_14, q_rt_14, q_oa_15, q_rt_15, q_oa_16, q_rt_16, q_oa_17, q_rt_17, q_oa_18, q_rt_18, q_ar_0, q_ar_1, q_ar_2, asI_i, q_ret, q_bind, q_bindn, q_map, q_mapn, q_evT, q_own, startR, List.getElem?_cons_succ, List.getElem?_cons_zero, List.set_cons_succ, List.set_cons_zero, List.map_cons, List.map_nil, List.replicate, List.length_cons, List.length_nil, List.append_eq, List.nil_append, List.cons_append, Bool.and_true, Bool.true_and, Bool.and_false, Bool.false_and, Bool.not_true, Bool.not_false, if_true, if_false, reduceCtorEq, Nat.reduceSub, Nat.reduceAdd, Nat.reduceLeDiff, Bool.false_eq_true, Bool.or_false, Bool.false_or, ite_true, ite_false, lenOk_0, lenOk_1, lenOk_2, lenOk_3, lenOk_4, lenOk_5, lenOk_6, lenOk_7, lenOk_8, i_add, i_sub, i_neg, i_asI, N_int, i_inti, i_intb, decide_true, decide_false, hlen, i_eq, c0, hx, ixN0, ixN1, ixN2, L_ne, n1, i_neg, q1, q2, m1, m2, hp]
          rw [← c1]
          rfl
        · rw [decide_eq_false c3] at m2
          refine ⟨F' ++ [(u.1, u.2.1, u.2.2)], swept_on (h0 ▸ hF) heP he hs c1 (by grind) (.inl ⟨rfl, by grind⟩), by rw [h0]; simp, ?_⟩
          have e1 : F' ++ [(u.1, u.2.1, u.2.2)] = F := h0.symm
          rw [e1]
          unfold ib_lying_lines_2
          simp only [q_wipeR_1, q_wipeR_2, q_asg_1, q_asg_2, q_asg_3, q_asg_4, q_asg_5, q_asg_6, q_asg_7, q_asgR_1, q_ownedArg_1, q_ownedArgs_1, q_ownedArgs_2, q_itemsOf_1, q_itemsOf_2, q_evE_1, q_evE_2, q_evE_3, q_evE_4, q_evE_5, q_evE_6, q_evE_7, q_evE_8, q_evE_9, q_evE_10, q_evE_11, q_evE_12, q_evE_13, q_evE_14, q_evE_15, q_evE_16, q_evE_17, q_evE_18, q_evE_19, q_evE_20, q_evEs_1, q_evEs_2, q_evP_1, q_evP_2, q_evC_1, q_evC_2, q_evI_1, q_evI_2, q_evRet_1, q_evS_1, q_evS_2, q_evS_3, q_evS_4, q_evS_5, q_evS_6, q_evS_7, q_evS_8, q_evS_9, q_evS_10, q_evS_11, q_evS_12, q_evS_13, q_evS_14, q_evS_15, q_evS_16, q_evSs_1, q_evSs_2, q_oa_0, q_rt_0, q_oa_1, q_rt_1, q_oa_2, q_rt_2, q_oa_3, q_rt_3, q_oa_4, q_rt_4, q_oa_5, q_rt_5, q_oa_6, q_rt_6, q_oa_7, q_rt_7, q_oa_8, q_rt_8, q_oa_9, q_rt_9, q_oa_10, q_rt_10, q_oa_11, q_rt_11, q_oa_12, q_rt_12, q_oa_13, q_rt_13, q_oa_14, q_rt_14, q_oa_15, q_rt_15, q_oa_16, q_rt_16, q_oa_17, q_rt_17, q_oa_18, q_rt_18, q_ar_0, q_ar_1, q_ar_2, asI_i, q_ret, q_bind, q_bindn, q_map, q_mapn, q_evT, q_own, startR, List.getElem?_cons_succ, List.getElem?_cons_zero, List.set_cons_succ, List.set_cons_zero, List.map_cons, List.map_nil, List.replicate, List.length_cons, List.length_nil, List.append_eq, List.nil_append, List.cons_append, Bool.and_true, Bool.true_and, Bool.and_false, Bool.false_and, Bool.not_true, Bool.not_false, if_true, if_false, reduceCtorEq, Nat.reduceSub, Nat.reduceAdd, Nat.reduceLeDiff, Bool.false_eq_true, Bool.or_false, Bool.false_or, ite_true, ite_false, lenOk_0, lenOk_1, lenOk_2, lenOk_3, lenOk_4, lenOk_5, lenOk_6, lenOk_7, lenOk_8, i_add, i_sub, i_neg, i_asI, N_int, i_inti, i_intb, decide_true, decide_false, hlen, i_eq, c0, hx, ixN0, ixN1, ixN2, L_ne, n1, i_neg, q1, q2, m1, m2]
    · have n1 : (!decide (u.1 = e.2.1)) = true := by rw [decide_eq_false c1]; rfl
      refine ⟨F ++ [(e.2.1, e.1, e.2.2)], swept_new hF he hs (fun G v hv => by
        rw [h0] at hv
        have := (List.append_inj' hv rfl).2
        injection this with this
        rw [← this]; exact .inl c1), by simp, ?_⟩
      rw [List.map_append]
      unfold ib_lying_lines_2
      simp only [q_wipeR_1, q_wipeR_2, q_asg_1, q_asg_2, q_asg_3, q_asg_4, q_asg_5, q_asg_6, q_asg_7, q_asgR_1, q_ownedArg_1, q_ownedArgs_1, q_ownedArgs_2, q_itemsOf_1, q_itemsOf_2, q_evE_1, q_evE_2, q_evE_3, q_evE_4, q_evE_5, q_evE_6, q_evE_7, q_evE_8, q_evE_9, q_evE_10, q_evE_11, q_evE_12, q_evE_13, q_evE_14, q_evE_15, q_evE_16, q_evE_17, q_evE_18, q_evE_19, q_evE_20, q_evEs_1, q_evEs_2, q_evP_1, q_evP_2, q_evC_1, q_evC_2, q_evI_1, q_evI_2, q_evRet_1, q_evS_1, q_evS_2, q_evS_3, q_evS_4, q_evS_5, q_evS_6, q_evS_7, q_evS_8, q_evS_9, q_evS_10, q_evS_11, q_evS_12, q_evS_13, q_evS_14, q_evS_15, q_evS_16, q_evSs_1, q_evSs_2, q_oa_0, q_rt_0, q_oa_1, q_rt_1, q_oa_2, q_rt_2, q_oa_3, q_rt_3, q_oa_4, q_rt_4, q_oa_5, q_rt_5, q_oa_6, q_rt_6, q_oa_7, q_rt_7, q_oa_8, q_rt_8, q_oa_9, q_rt_9, q_oa_10, q_rt_10, q_oa_11, q_rt_11, q_oa_12, q_rt_12, q_oa_13, q_rt_13, q_oa_14, q_rt_14, q_oa_15, q_rt_15, q_oa_16, q_rt_16, q_oa_17, q_rt_17, q_oa_18, q_rt_18, q_ar_0, q_ar_1, q_ar_2, asI_i, q_ret, q_bind, q_bindn, q_map, q_mapn, q_evT, q_own, startR, List.getElem?_cons_succ, List.getElem?_cons_zero, List.set_cons_succ, List.set_cons_zero, List.map_cons, List.map_nil, List.replicate, List.length_cons, List.length_nil, List.append_eq, List.nil_append, List.cons_append, Bool.and_true, Bool.true_and, Bool.and_false, Bool.false_and, Bool.not_true, Bool.not_false, if_true, if_false, reduceCtorEq, Nat.reduceSub, Nat.reduceAdd, Nat.reduceLeDiff, Bool.false_eq_true, Bool.or_false, Bool.false_or, ite_true, ite_false, lenOk_0, lenOk_1, lenOk_2, lenOk_3, lenOk_4, lenOk_5, lenOk_6, lenOk_7, lenOk_8, i_add, i_sub, i_neg, i_asI, N_int, i_inti, i_intb, decide_true, decide_false, hlen, i_eq, c0, hx, ixN0, i_neg, L_ne, n1, hlk]
      rfl
theorem XYed : XY d encEd (fun e : Ed d => e.1) (fun e => e.2.1) := ⟨fun _ => Eq.trans rfl (Eq.refl _), fun _ => Eq.trans rfl (Eq.refl _)⟩
/-- tiles with sides above 0 whose numbers are small -/
def OkT [NSq d] (k : Nat) (T : List (Tl d)) : Prop := ∀ t ∈ T, SzT k t ∧ 0 < t.2.2.1 ∧ 0 < t.2.2.2
theorem edges_lt [NSq d] {k : Nat} {T : List (Tl d)} (h : OkT k T) : ∀ e ∈ edges T, e.1 < e.2.2 := fun e he => by
  unfold edges at he
  obtain ⟨t, ht, he⟩ := List.mem_flatMap.mp he
  obtain ⟨-, h1, -⟩ := h t ht
  unfold edgesT at he
  simp only [List.mem_cons, List.not_mem_nil, or_false] at he
  rcases he with rfl | rfl
  · show t.1 < t.1 + t.2.2.1; grind
  · show t.1 < t.1 + t.2.2.1; grind
theorem edges_sz [NSq d] {k : Nat} {T : List (Tl d)} (h : OkT k T) : ∀ e ∈ edges T, Sz (k + k + 1) e.1 ∧ Sz (k + k + 1) e.2.1 ∧ Sz (k + k + 1) e.2.2 := fun e he => by
  unfold edges at he
  obtain ⟨t, ht, he⟩ := List.mem_flatMap.mp he
  obtain ⟨h1, -, -⟩ := h t ht
  unfold edgesT at he
  simp only [List.mem_cons, List.not_mem_nil, or_false] at he
  rcases he with rfl | rfl
  · exact ⟨h1.1.mono (by omega), h1.2.1.mono (by omega), plus_sz h1.1 h1.2.2.1⟩
  · exact ⟨h1.1.mono (by omega), plus_sz h1.2.1 h1.2.2.2, plus_sz h1.1 h1.2.2.1⟩
theorem edges_len (T : List (Tl d)) : (edges T).length = 2 * T.length := by
  unfold edges
  induction T with
  | nil => rfl
  | cons t T ih => rw [List.flatMap_cons, List.length_append, ih, List.length_cons]; show 2 + _ = _; omega
theorem lying_lines_is [NSq d] {k : Nat} {T : List (Tl d)} {sh : PyData} (hd : d < 64) (h : OkT k T) (hk : k ≤ 900) (hn : T.length ≤ 200) : ∃ F, IsLines (edges T) F ∧ F.length ≤ 2 * T.length ∧ f_lying_lines [.int (d : Int), sh, .list (T.map encTl)] = some (true, .list (F.map encLn)) := by
  have hsz := edges_sz h
  have hlt := edges_lt h
  have e1 : ∀ (b : Bool) (s3 s4 s5 s6 s7 s8 s9 : Option R), evE ic_lying_lines_1 b [sI (d : Int), some (false, sh), some (false, .list (T.map encTl)), s3, s4, s5, s6, s7, s8, s9] = some (true, .list ((edges T).map encEd)) := fun b s3 s4 s5 s6 s7 s8 s9 => by
    unfold ic_lying_lines_1
    simp only [q_wipeR_1, q_wipeR_2, q_asg_1, q_asg_2, q_asg_3, q_asg_4, q_asg_5, q_asg_6, q_asg_7, q_asgR_1, q_ownedArg_1, q_ownedArgs_1, q_ownedArgs_2, q_itemsOf_1, q_itemsOf_2, q_evE_1, q_evE_2, q_evE_3, q_evE_4, q_evE_5, q_evE_6, q_evE_7, q_evE_8, q_evE_9, q_evE_10, q_evE_11, q_evE_12, q_evE_13, q_evE_14, q_evE_15, q_evE_16, q_evE_17, q_evE_18, q_evE_19, q_evE_20, q_evEs_1, q_evEs_2, q_evP_1, q_evP_2, q_evC_1, q_evC_2, q_evI_1, q_evI_2, q_evRet_1, q_evS_1, q_evS_2, q_evS_3, q_evS_4, q_evS_5, q_evS_6, q_evS_7, q_evS_8, q_evS_9, q_evS_10, q_evS_11, q_evS_12, q_evS_13, q_evS_14, q_evS_15, q_evS_16, q_evSs_1, q_evSs_2, q_oa_0, q_rt_0, q_oa_1, q_rt_1, q_oa_2, q_rt_2, q_oa_3, q_rt_3, q_oa_4, q_rt_4, q_oa_5, q_rt_5, q_oa_6, q_rt_6, q_oa_7, q_rt_7, q_oa_8, q_rt_8, q_oa_9, q_rt_9, q_oa_10, q_rt_10, q_oa_11, q_rt_11, q_oa_12, q_rt_12, q_oa_13, q_rt_13, q_oa_14, q_rt_14, q_oa_15, q_rt_15, q_oa_16, q_rt_16, q_oa_17, q_rt_17, q_oa_18, q_rt_18, q_ar_0, q_ar_1, q_ar_2, asI_i, q_ret, q_bind, q_bindn, q_map, q_mapn, q_evT, q_own, startR, List.getElem?_cons_succ, List.getElem?_cons_zero, List.set_cons_succ, List.set_cons_zero, List.map_cons, List.map_nil, List.replicate, List.length_cons, List.length_nil, List.append_eq, List.nil_append, List.cons_append, Bool.and_true, Bool.true_and, Bool.and_false, Bool.false_and, Bool.not_true, Bool.not_false, if_true, if_false, reduceCtorEq, Nat.reduceSub, Nat.reduceAdd, Nat.reduceLeDiff, Bool.false_eq_true, Bool.or_false, Bool.false_or, ite_true, ite_false, lenOk_0, lenOk_1, lenOk_2, lenOk_3, lenOk_4, lenOk_5, lenOk_6, lenOk_7, lenOk_8, i_add, i_sub, i_neg, i_asI, N_int, i_inti, i_intb, decide_true, decide_false]
    rw [compGo2_map (en2 := encEd) (fun t : Tl d => edgesT t)]
    · show (if lenOk ((edges T).map encEd).length = true then some (true, PyData.list ((edges T).map encEd)) else none) = _
      rw [if_pos (lenOk_of (by rw [List.length_map, edges_len]; omega))]
    intro t ht
    simp only [q_wipeR_1, q_wipeR_2, q_asg_1, q_asg_2, q_asg_3, q_asg_4, q_asg_5, q_asg_6, q_asg_7, q_asgR_1, q_ownedArg_1, q_ownedArgs_1, q_ownedArgs_2, q_itemsOf_1, q_itemsOf_2, q_evE_1, q_evE_2, q_evE_3, q_evE_4, q_evE_5, q_evE_6, q_evE_7, q_evE_8, q_evE_9, q_evE_10, q_evE_11, q_evE_12, q_evE_13, q_evE_14, q_evE_15, q_evE_16, q_evE_17, q_evE_18, q_evE_19, q_evE_20, q_evEs_1, q_evEs_2, q_evP_1, q_evP_2, q_evC_1, q_evC_2, q_evI_1, q_evI_2, q_evRet_1, q_evS_1, q_evS_2, q_evS_3, q_evS_4, q_evS_5, q_evS_6, q_evS_7, q_evS_8, q_evS_9, q_evS_10, q_evS_11, q_evS_12, q_evS_13, q_evS_14, q_evS_15, q_evS_16, q_evSs_1, q_evSs_2, q_oa_0, q_rt_0, q_oa_1, q_rt_1, q_oa_2, q_rt_2, q_oa_3, q_rt_3, q_oa_4, q_rt_4, q_oa_5, q_rt_5, q_oa_6, q_rt_6, q_oa_7, q_rt_7, q_oa_8, q_rt_8, q_oa_9, q_rt_9, q_oa_10, q_rt_10, q_oa_11, q_rt_11, q_oa_12, q_rt_12, q_oa_13, q_rt_13, q_oa_14, q_rt_14, q_oa_15, q_rt_15, q_oa_16, q_rt_16, q_oa_17, q_rt_17, q_oa_18, q_rt_18, q_ar_0, q_ar_1, q_ar_2, asI_i, q_ret, q_bind, q_bindn, q_map, q_mapn, q_evT, q_own, startR, List.getElem?_cons_succ, List.getElem?_cons_zero, List.set_cons_succ, List.set_cons_zero, List.map_cons, List.map_nil, List.replicate, List.length_cons, List.length_nil, List.append_eq, List.nil_append, List.cons_append, Bool.and_true, Bool.true_and, Bool.and_false, Bool.false_and, Bool.not_true, Bool.not_false, if_true, if_false, reduceCtorEq, Nat.reduceSub, Nat.reduceAdd, Nat.reduceLeDiff, Bool.false_eq_true, Bool.or_false, Bool.false_or, ite_true, ite_false, lenOk_0, lenOk_1, lenOk_2, lenOk_3, lenOk_4, lenOk_5, lenOk_6, lenOk_7, lenOk_8, i_add, i_sub, i_neg, i_asI, N_int, i_inti, i_intb, decide_true, decide_false, edges_of_is (h t ht).1 (by omega)]
    rfl
  obtain ⟨O, o1, o2, o3⟩ := inord_is (l := edges T) (k := k + k + 1) XYed hd (fun e he => ⟨(hsz e he).1, (hsz e he).2.1⟩) (by omega) (by rw [edges_len]; omega)
  obtain ⟨ρ', e, F, j7, j8, j9, hF, hFn, rfl⟩ := forGo_do (g := .thr (.nm 7) (.nm 8) (.nm 9)) (f := blk FUEL ib_lying_lines_2) encEd (fun pre ρ => ∃ (F : List (Ln d)) (j7 j8 j9 : Option R), Swept pre F ∧ F.length ≤ pre.length ∧ ρ = [sI (d : Int), some (false, sh), some (false, .list (T.map encTl)), some (false, .list (O.map encEd)), none, none, some (true, .list (F.map encLn)), j7, j8, j9]) (l := O) (ρ := [sI (d : Int), some (false, sh), some (false, .list (T.map encTl)), some (false, .list (O.map encEd)), none, none, some (true, .list (([] : List (Ln d)).map encLn)), none, none, none]) ⟨[], none, none, none, swept_nil, Nat.le_refl _, rfl⟩ (by
    rintro pre x suf ρ hs ⟨F, j7, j8, j9, hF, hFn, rfl⟩
    have hmem : ∀ y ∈ O, y ∈ edges T := fun y hy => o1.mem_iff.mp hy
    have hx : x ∈ O := by rw [hs]; simp
    have hpre : ∀ y ∈ pre, y ∈ O := fun y hy => by rw [hs]; exact List.mem_append_left _ hy
    have hlen : pre.length ≤ 400 := by
      have := congrArg List.length hs
      rw [List.length_append, o1.length_eq, edges_len] at this
      omega
    have hso : ∀ y ∈ pre, y.2.1 < x.2.1 ∨ (y.2.1 = x.2.1 ∧ y.1 ≤ x.1) := fun y hy => by
      have hp := o2
      unfold SoT at hp
      rw [hs, List.pairwise_append] at hp
      have := hp.2.2 y hy x (by simp)
      unfold ltA at this
      by_cases k1 : y.2.1 < x.2.1
      · exact .inl k1
      · right
        have k2 : y.2.1 = x.2.1 := by
          apply Classical.byContradiction
          intro k2
          exact this (.inl (by grind))
        refine ⟨k2, ?_⟩
        apply Classical.byContradiction
        intro k3
        exact this (.inr ⟨k2.symm, by grind⟩)
    obtain ⟨F', s1, s2, s3⟩ := lines_body (s1 := some (false, sh)) (s2 := some (false, .list (T.map encTl))) (s3 := some (false, .list (O.map encEd))) (s4 := none) (s5 := none) hd hF (fun y hy => hlt y (hmem y (hpre y hy))) (hlt x (hmem x hx)) hso (show k + k + 1 ≤ 1900 by omega) (hsz x (hmem x hx)).1 (hsz x (hmem x hx)).2.2 (fun y hy => (hsz y (hmem y (hpre y hy))).2.2) (by omega)
    exact ⟨_, _, rfl, s3, F', sQ x.1, sQ x.2.1, sQ x.2.2, s1, by rw [List.length_append, List.length_singleton]; omega, rfl⟩)
  have e0 : forGo (.thr (.nm 7) (.nm 8) (.nm 9)) (blk FUEL ib_lying_lines_2) (O.map encEd) [some (false, .int (d : Int)), some (false, sh), some (false, .list (T.map encTl)), some (false, .list (O.map encEd)), none, none, some (true, .list []), none, none, none] = _ := e
  have oa : ∀ ρ, ownedArg ρ ic_lying_lines_1 = false := fun ρ => Eq.trans rfl (Eq.refl _)
  have hit : itemsOf (.list (O.map encEd)) = some (O.map encEd) := rfl
  refine ⟨F, hF.is.cong fun e => o1.mem_iff, ?_, ?_⟩
  · rw [o1.length_eq, edges_len] at hFn; exact hFn
  unfold f_lying_lines evDef ir_lying_lines
  simp only [q_wipeR_1, q_wipeR_2, q_asg_1, q_asg_2, q_asg_3, q_asg_4, q_asg_5, q_asg_6, q_asg_7, q_asgR_1, q_ownedArg_1, q_ownedArgs_1, q_ownedArgs_2, q_itemsOf_1, q_itemsOf_2, q_evE_1, q_evE_2, q_evE_3, q_evE_4, q_evE_5, q_evE_6, q_evE_7, q_evE_8, q_evE_9, q_evE_10, q_evE_11, q_evE_12, q_evE_13, q_evE_14, q_evE_15, q_evE_16, q_evE_17, q_evE_18, q_evE_19, q_evE_20, q_evEs_1, q_evEs_2, q_evP_1, q_evP_2, q_evC_1, q_evC_2, q_evI_1, q_evI_2, q_evRet_1, q_evS_1, q_evS_2, q_evS_3, q_evS_4, q_evS_5, q_evS_6, q_evS_7, q_evS_8, q_evS_9, q_evS_10, q_evS_11, q_evS_12, q_evS_13, q_evS_14, q_evS_15, q_evS_16, q_evSs_1, q_evSs_2, q_oa_0, q_rt_0, q_oa_1, q_rt_1, q_oa_2, q_rt_2, q_oa_3, q_rt_3, q_oa_4, q_rt_4, q_oa_5, q_rt_5, q_oa_6, q_rt_6, q_oa_7, q_rt_7, q_oa_8, q_rt_8, q_oa_9, q_rt_9, q_oa_10, q_rt_10, q_oa_11, q_rt_11, q_oa_12, q_rt_12, q_oa_13, q_rt_13, q_oa_14, q_rt_14, q_oa_15, q_rt_15, q_oa_16, q_rt_16, q_oa_17, q_rt_17, q_oa_18, q_rt_18, q_ar_0, q_ar_1, q_ar_2, asI_i, q_ret, q_bind, q_bindn, q_map, q_mapn, q_evT, q_own, startR, List.getElem?_cons_succ, List.getElem?_cons_zero, List.set_cons_succ, List.set_cons_zero, List.map_cons, List.map_nil, List.replicate, List.length_cons, List.length_nil, List.append_eq, List.nil_append, List.cons_append, Bool.and_true, Bool.true_and, Bool.and_false, Bool.false_and, Bool.not_true, Bool.not_false, if_true, if_false, reduceCtorEq, Nat.reduceSub, Nat.reduceAdd, Nat.reduceLeDiff, Bool.false_eq_true, Bool.or_false, Bool.false_or, ite_true, ite_false, lenOk_0, lenOk_1, lenOk_2, lenOk_3, lenOk_4, lenOk_5, lenOk_6, lenOk_7, lenOk_8, i_add, i_sub, i_neg, i_asI, N_int, i_inti, i_intb, decide_true, decide_false, oa, e1, o3, hit, e0]
end K83

set_option Elab.async false
set_option linter.all false
set_option maxRecDepth 100000
set_option maxHeartbeats 4000000
namespace K83
open PySem L2 PV Qu
variable {d : Nat}
/-! ### cuttings -/
def splitT (side : Nat) (t : Tl d) (r : Rat) : List (Tl d) := if side = 0 then [(t.1, t.2.1, t.2.2.1 * F r, t.2.2.2), (t.1 + t.2.2.1 * F r, t.2.1, t.2.2.1 - t.2.2.1 * F r, t.2.2.2)]
  else [(t.1, t.2.1, t.2.2.1, t.2.2.2 * F r), (t.1, t.2.1 + t.2.2.2 * F r, t.2.2.1, t.2.2.2 - t.2.2.2 * F r)]
def wheelT (t : Tl d) (r : Rat) : List (Tl d) :=
  [(t.1, t.2.1, t.2.2.1 - t.2.2.1 * F r, t.2.2.2 * F r), (t.1 + (t.2.2.1 - t.2.2.1 * F r), t.2.1, t.2.2.1 * F r, t.2.2.2 - t.2.2.2 * F r), (t.1 + t.2.2.1 * F r, t.2.1 + (t.2.2.2 - t.2.2.2 * F r), t.2.2.1 - t.2.2.1 * F r, t.2.2.2 * F r),
   (t.1, t.2.1 + t.2.2.2 * F r, t.2.2.1 * F r, t.2.2.2 - t.2.2.2 * F r), (t.1 + t.2.2.1 * F r, t.2.1 + t.2.2.2 * F r, t.2.2.1 - t.2.2.1 * F r - t.2.2.1 * F r, t.2.2.2 - t.2.2.2 * F r - t.2.2.2 * F r)]
/-- a share: c of 420 -/
def Share (c : Nat) (r : Rat) : Prop := 0 < c ∧ c < 420 ∧ r * 420 = (c : Rat)
inductive Cut1 (T : List (Tl d)) : List (Tl d) → Prop
  | split {A B : List (Tl d)} {t : Tl d} (side c : Nat) (r : Rat) : T = A ++ t :: B → Share c r → Cut1 T (A ++ splitT side t r ++ B)
  | wheel {A B : List (Tl d)} {t : Tl d} (c : Nat) (r : Rat) : T = A ++ t :: B → Share c r → c ≤ 105 → Cut1 T (A ++ wheelT t r ++ B)
inductive CutN (T0 : List (Tl d)) : Nat → List (Tl d) → Prop
  | zero : CutN T0 0 T0
  | succ {n : Nat} {T T' : List (Tl d)} : CutN T0 n T → Cut1 T T' → CutN T0 (n + 1) T'
def DnT (S B : Nat) (t : Tl d) : Prop := Dn S B t.1 ∧ Dn S B t.2.1 ∧ Dn S B t.2.2.1 ∧ Dn S B t.2.2.2
theorem DnT.sz {S B k : Nat} {t : Tl d} (h : DnT S B t) (h0 : 0 < S) (hS : S < 2 ^ k) (hB : B < 2 ^ k) : SzT k t := ⟨h.1.sz h0 hS hB, h.2.1.sz h0 hS hB, h.2.2.1.sz h0 hS hB, h.2.2.2.sz h0 hS hB⟩
theorem share_dn {S B c : Nat} {r : Rat} {x : Q d} (h : Dn S B x) (hr : Share c r) : Dn (S * 420) (B * 420) (x * F r) := by
  obtain ⟨m, n, h1, h2, h3, h4⟩ := h
  obtain ⟨c0, c1, hr⟩ := hr
  have e4 : ((420 : Nat) : Rat) = 420 := rfl
  have ec : ((c : Int) : Rat) = (c : Rat) := Rat.intCast_natCast c
  have pr : ∀ a : Int, a.natAbs ≤ B → (a * (c : Int)).natAbs ≤ B * 420 := fun a h => by rw [Int.natAbs_mul, Int.natAbs_natCast]; exact Nat.mul_le_mul h (by omega)
  have fa : (F r : Q d).a = r := rfl
  have fb : (F r : Q d).b = 0 := rfl
  refine ⟨m * c, n * c, ?_, ?_, pr m h3, pr n h4⟩
  · rw [Q.mul_a, fa, fb, Rat.intCast_mul, ← h1, Rat.natCast_mul, e4, ec, ← hr]; grind
  · rw [Q.mul_b, fa, fb, Rat.intCast_mul, ← h2, Rat.natCast_mul, e4, ec, ← hr]; grind
theorem made_dn {S B : Nat} {t : Tl d} (h : DnT S B t) {c : Nat} {r : Rat} (hr : Share c r) : (∀ side, ∀ u ∈ splitT side t r, DnT (S * 420) (B * 1260) u) ∧ ∀ u ∈ wheelT t r, DnT (S * 420) (B * 1260) u := by
  obtain ⟨h1, h2, h3, h4⟩ := h
  have up : ∀ {x : Q d}, Dn S B x → Dn (S * 420) (B * 420) x := fun h => h.scale 420
  have to : ∀ {x : Q d} {C : Nat}, Dn (S * 420) C x → C ≤ B * 1260 → Dn (S * 420) (B * 1260) x := fun h g => h.mono g
  have a := share_dn h3 hr
  have b := share_dn h4 hr
  have x := up h1
  have y := up h2
  have w := up h3
  have g := up h4
  have c1 := w.sub a
  have e1 := g.sub b
  constructor
  · intro side u hu
    unfold splitT at hu
    split at hu
    · simp only [List.mem_cons, List.not_mem_nil, or_false] at hu
      rcases hu with rfl | rfl
      · exact ⟨to x (by omega), to y (by omega), to a (by omega), to g (by omega)⟩
      · exact ⟨to (x.add a) (by omega), to y (by omega), to c1 (by omega), to g (by omega)⟩
    · simp only [List.mem_cons, List.not_mem_nil, or_false] at hu
      rcases hu with rfl | rfl
      · exact ⟨to x (by omega), to y (by omega), to w (by omega), to b (by omega)⟩
      · exact ⟨to x (by omega), to (y.add b) (by omega), to w (by omega), to e1 (by omega)⟩
  · intro u hu
    unfold wheelT at hu
    simp only [List.mem_cons, List.not_mem_nil, or_false] at hu
    rcases hu with rfl | rfl | rfl | rfl | rfl
    · exact ⟨to x (by omega), to y (by omega), to c1 (by omega), to b (by omega)⟩
    · exact ⟨to (x.add c1) (by omega), to y (by omega), to a (by omega), to e1 (by omega)⟩
    · exact ⟨to (x.add a) (by omega), to (y.add e1) (by omega), to c1 (by omega), to b (by omega)⟩
    · exact ⟨to x (by omega), to (y.add b) (by omega), to a (by omega), to e1 (by omega)⟩
    · exact ⟨to (x.add a) (by omega), to (y.add b) (by omega), to (c1.sub a) (by omega), to (e1.sub b) (by omega)⟩
theorem cut_dn {S B : Nat} {T T' : List (Tl d)} (h : Cut1 T T') (hT : ∀ t ∈ T, DnT S B t) : ∀ t ∈ T', DnT (S * 420) (B * 1260) t := by
  have up : ∀ {x : Q d}, Dn S B x → Dn (S * 420) (B * 1260) x := fun h => (h.scale 420).mono (Nat.mul_le_mul_left B (by decide))
  have upT : ∀ u ∈ T, DnT (S * 420) (B * 1260) u := fun u hu => let ⟨a, b, c, e⟩ := hT u hu; ⟨up a, up b, up c, up e⟩
  intro u hu
  cases h with
  | split side c r e hr =>
    rcases List.mem_append.mp hu with hu | hu
    · rcases List.mem_append.mp hu with hu | hu
      · exact upT u (by rw [e]; exact List.mem_append_left _ hu)
      · exact (made_dn (hT _ (by rw [e]; simp)) hr).1 side u hu
    · exact upT u (by rw [e]; exact List.mem_append_right _ (List.mem_cons_of_mem _ hu))
  | wheel c r e hr hc =>
    rcases List.mem_append.mp hu with hu | hu
    · rcases List.mem_append.mp hu with hu | hu
      · exact upT u (by rw [e]; exact List.mem_append_left _ hu)
      · exact (made_dn (hT _ (by rw [e]; simp)) hr).2 u hu
    · exact upT u (by rw [e]; exact List.mem_append_right _ (List.mem_cons_of_mem _ hu))
theorem cuts_dn {S B : Nat} {T0 : List (Tl d)} (h0 : ∀ t ∈ T0, DnT S B t) : ∀ {n : Nat} {T : List (Tl d)}, CutN T0 n T → ∀ t ∈ T, DnT (S * 420 ^ n) (B * 1260 ^ n) t
  | _, _, .zero => by simpa using h0
  | _, _, .succ h c => by
    rw [Nat.pow_succ, Nat.pow_succ, ← Nat.mul_assoc, ← Nat.mul_assoc]
    exact cut_dn c (cuts_dn h0 h)
theorem cut_len {T T' : List (Tl d)} (h : Cut1 T T') : T.length ≤ T'.length ∧ T'.length ≤ T.length + 4 := by
  cases h with
  | split side c r e hr =>
    have : (∀ t : Tl d, (splitT side t r).length = 2) := fun t => by unfold splitT; split <;> rfl
    subst e
    simp only [List.length_append, this, List.length_cons]
    omega
  | wheel c r e hr hc =>
    have : (∀ t : Tl d, (wheelT t r).length = 5) := fun t => rfl
    subst e
    simp only [List.length_append, this, List.length_cons]
    omega
theorem cuts_len {T0 : List (Tl d)} : ∀ {n : Nat} {T : List (Tl d)}, CutN T0 n T → T0.length ≤ T.length ∧ T.length ≤ T0.length + 4 * n
  | _, _, .zero => ⟨Nat.le_refl _, by omega⟩
  | _, _, .succ h c => by
    have h1 := cuts_len h
    have h2 := cut_len c
    omega
/-! the defs -/
theorem split_is {t : Tl d} {side : Nat} {r : Rat} {k c : Nat} (hd : d < 64) (hs : side < 2) (ht : SzT k t) (hr : Sz 10 (F r : Q d)) (hk : k ≤ 1000) : f__law_split [.int (d : Int), encTl t, .int (side : Int), L (F r : Q d)] = some (true, .list ((splitT side t r).map encTl)) := by
  obtain ⟨h1, h2, h3, h4⟩ := ht
  have a1 := law_times_is hd h3 hr (by omega)
  have a2 := law_times_is hd h4 hr (by omega)
  have s1 := times_sz hd h3 hr
  have s2 := times_sz hd h4 hr
  have b1 := law_plus_is h1 s1 (by omega)
  have b2 := law_plus_is h2 s2 (by omega)
  have c1 := law_minus_is h3 s1 (by omega)
  have c2 := law_minus_is h4 s2 (by omega)
  unfold f__law_split evDef ir__law_split
  match side, hs with
  | 0, _ =>
    have e : ((0 : Nat) : Int) = 0 := rfl
    simp only [q_wipeR_1, q_wipeR_2, q_asg_1, q_asg_2, q_asg_3, q_asg_4, q_asg_5, q_asg_6, q_asg_7, q_asgR_1, q_ownedArg_1, q_ownedArgs_1, q_ownedArgs_2, q_itemsOf_1, q_itemsOf_2, q_evE_1, q_evE_2, q_evE_3, q_evE_4, q_evE_5, q_evE_6, q_evE_7, q_evE_8, q_evE_9, q_evE_10, q_evE_11, q_evE_12, q_evE_13, q_evE_14, q_evE_15, q_evE_16, q_evE_17, q_evE_18, q_evE_19, q_evE_20, q_evEs_1, q_evEs_2, q_evP_1, q_evP_2, q_evC_1, q_evC_2, q_evI_1, q_evI_2, q_evRet_1, q_evS_1, q_evS_2, q_evS_3, q_evS_4, q_evS_5, q_evS_6, q_evS_7, q_evS_8, q_evS_9, q_evS_10, q_evS_11, q_evS_12, q_evS_13, q_evS_14, q_evS_15, q_evS_16, q_evSs_1, q_evSs_2, q_oa_0, q_rt_0, q_oa_1, q_rt_1, q_oa_2, q_rt_2, q_oa_3, q_rt_3, q_oa_4, q_rt_4, q_oa_5, q_rt_5, q_oa_6, q_rt_6, q_oa_7, q_rt_7, q_oa_8, q_rt_8, q_oa_9, q_rt_9, q_oa_10, q_rt_10, q_oa_11, q_rt_11, q_oa_12, q_rt_12, q_oa_13, q_rt_13, q_oa_14, q_rt_14, q_oa_15, q_rt_15, q_oa_16, q_rt_16, q_oa_17, q_rt_17, q_oa_18, q_rt_18, q_ar_0, q_ar_1, q_ar_2, asI_i, q_ret, q_bind, q_bindn, q_map, q_mapn, q_evT, q_own, startR, List.getElem?_cons_succ, List.getElem?_cons_zero, List.set_cons_succ, List.set_cons_zero, List.map_cons, List.map_nil, List.replicate, List.length_cons, List.length_nil, List.append_eq, List.nil_append, List.cons_append, Bool.and_true, Bool.true_and, Bool.and_false, Bool.false_and, Bool.not_true, Bool.not_false, if_true, if_false, reduceCtorEq, Nat.reduceSub, Nat.reduceAdd, Nat.reduceLeDiff, Bool.false_eq_true, Bool.or_false, Bool.false_or, ite_true, ite_false, lenOk_0, lenOk_1, lenOk_2, lenOk_3, lenOk_4, lenOk_5, lenOk_6, lenOk_7, lenOk_8, i_add, i_sub, i_neg, i_asI, N_int, i_inti, i_intb, decide_true, decide_false, asgT, i_eq, e, a1, b1, c1]
    rfl
  | 1, _ =>
    have e : decide (((1 : Nat) : Int) = 0) = false := rfl
    simp only [q_wipeR_1, q_wipeR_2, q_asg_1, q_asg_2, q_asg_3, q_asg_4, q_asg_5, q_asg_6, q_asg_7, q_asgR_1, q_ownedArg_1, q_ownedArgs_1, q_ownedArgs_2, q_itemsOf_1, q_itemsOf_2, q_evE_1, q_evE_2, q_evE_3, q_evE_4, q_evE_5, q_evE_6, q_evE_7, q_evE_8, q_evE_9, q_evE_10, q_evE_11, q_evE_12, q_evE_13, q_evE_14, q_evE_15, q_evE_16, q_evE_17, q_evE_18, q_evE_19, q_evE_20, q_evEs_1, q_evEs_2, q_evP_1, q_evP_2, q_evC_1, q_evC_2, q_evI_1, q_evI_2, q_evRet_1, q_evS_1, q_evS_2, q_evS_3, q_evS_4, q_evS_5, q_evS_6, q_evS_7, q_evS_8, q_evS_9, q_evS_10, q_evS_11, q_evS_12, q_evS_13, q_evS_14, q_evS_15, q_evS_16, q_evSs_1, q_evSs_2, q_oa_0, q_rt_0, q_oa_1, q_rt_1, q_oa_2, q_rt_2, q_oa_3, q_rt_3, q_oa_4, q_rt_4, q_oa_5, q_rt_5, q_oa_6, q_rt_6, q_oa_7, q_rt_7, q_oa_8, q_rt_8, q_oa_9, q_rt_9, q_oa_10, q_rt_10, q_oa_11, q_rt_11, q_oa_12, q_rt_12, q_oa_13, q_rt_13, q_oa_14, q_rt_14, q_oa_15, q_rt_15, q_oa_16, q_rt_16, q_oa_17, q_rt_17, q_oa_18, q_rt_18, q_ar_0, q_ar_1, q_ar_2, asI_i, q_ret, q_bind, q_bindn, q_map, q_mapn, q_evT, q_own, startR, List.getElem?_cons_succ, List.getElem?_cons_zero, List.set_cons_succ, List.set_cons_zero, List.map_cons, List.map_nil, List.replicate, List.length_cons, List.length_nil, List.append_eq, List.nil_append, List.cons_append, Bool.and_true, Bool.true_and, Bool.and_false, Bool.false_and, Bool.not_true, Bool.not_false, if_true, if_false, reduceCtorEq, Nat.reduceSub, Nat.reduceAdd, Nat.reduceLeDiff, Bool.false_eq_true, Bool.or_false, Bool.false_or, ite_true, ite_false, lenOk_0, lenOk_1, lenOk_2, lenOk_3, lenOk_4, lenOk_5, lenOk_6, lenOk_7, lenOk_8, i_add, i_sub, i_neg, i_asI, N_int, i_inti, i_intb, decide_true, decide_false, asgT, i_eq, e, a2, b2, c2]
    rfl
theorem wheel_is {t : Tl d} {r : Rat} {k : Nat} (hd : d < 64) (ht : SzT k t) (hr : Sz 10 (F r : Q d)) (hk : k ≤ 1000) : f__law_wheel [.int (d : Int), encTl t, L (F r : Q d)] = some (true, .list ((wheelT t r).map encTl)) := by
  obtain ⟨h1, h2, h3, h4⟩ := ht
  have a1 := law_times_is hd h3 hr (by omega)
  have a2 := law_times_is hd h4 hr (by omega)
  have s1 := times_sz hd h3 hr
  have s2 := times_sz hd h4 hr
  have c1 := law_minus_is h3 s1 (by omega)
  have c2 := law_minus_is h4 s2 (by omega)
  have u1 := minus_sz h3 s1
  have u2 := minus_sz h4 s2
  have b1 := law_plus_is h1 s1 (by omega)
  have b2 := law_plus_is h2 s2 (by omega)
  have b3 := law_plus_is h1 u1 (by omega)
  have b4 := law_plus_is h2 u2 (by omega)
  have e1 := law_minus_is u1 s1 (by omega)
  have e2 := law_minus_is u2 s2 (by omega)
  unfold f__law_wheel evDef ir__law_wheel
  simp only [q_wipeR_1, q_wipeR_2, q_asg_1, q_asg_2, q_asg_3, q_asg_4, q_asg_5, q_asg_6, q_asg_7, q_asgR_1, q_ownedArg_1, q_ownedArgs_1, q_ownedArgs_2, q_itemsOf_1, q_itemsOf_2, q_evE_1, q_evE_2, q_evE_3, q_evE_4, q_evE_5, q_evE_6, q_evE_7, q_evE_8, q_evE_9, q_evE_10, q_evE_11, q_evE_12, q_evE_13, q_evE_14, q_evE_15, q_evE_16, q_evE_17, q_evE_18, q_evE_19, q_evE_20, q_evEs_1, q_evEs_2, q_evP_1, q_evP_2, q_evC_1, q_evC_2, q_evI_1, q_evI_2, q_evRet_1, q_evS_1, q_evS_2, q_evS_3, q_evS_4, q_evS_5, q_evS_6, q_evS_7, q_evS_8, q_evS_9, q_evS_10, q_evS_11, q_evS_12, q_evS_13, q_evS_14, q_evS_15, q_evS_16, q_evSs_1, q_evSs_2, q_oa_0, q_rt_0, q_oa_1, q_rt_1, q_oa_2, q_rt_2, q_oa_3, q_rt_3, q_oa_4, q_rt_4, q_oa_5, q_rt_5, q_oa_6, q_rt_6, q_oa_7, q_rt_7, q_oa_8, q_rt_8, q_oa_9, q_rt_9, q_oa_10, q_rt_10, q_oa_11, q_rt_11, q_oa_12, q_rt_12, q_oa_13, q_rt_13, q_oa_14, q_rt_14, q_oa_15, q_rt_15, q_oa_16, q_rt_16, q_oa_17, q_rt_17, q_oa_18, q_rt_18, q_ar_0, q_ar_1, q_ar_2, asI_i, q_ret, q_bind, q_bindn, q_map, q_mapn, q_evT, q_own, startR, List.getElem?_cons_succ, List.getElem?_cons_zero, List.set_cons_succ, List.set_cons_zero, List.map_cons, List.map_nil, List.replicate, List.length_cons, List.length_nil, List.append_eq, List.nil_append, List.cons_append, Bool.and_true, Bool.true_and, Bool.and_false, Bool.false_and, Bool.not_true, Bool.not_false, if_true, if_false, reduceCtorEq, Nat.reduceSub, Nat.reduceAdd, Nat.reduceLeDiff, Bool.false_eq_true, Bool.or_false, Bool.false_or, ite_true, ite_false, lenOk_0, lenOk_1, lenOk_2, lenOk_3, lenOk_4, lenOk_5, lenOk_6, lenOk_7, lenOk_8, i_add, i_sub, i_neg, i_asI, N_int, i_inti, i_intb, decide_true, decide_false, asgT, a1, a2, c1, c2, b1, b2, b3, b4, e1, e2, lenOk_5]
  rfl
theorem range_at {n x : Nat} {pre suf : List Nat} (h : List.range n = pre ++ x :: suf) : x = pre.length ∧ pre.length < n := by
  have h1 : (List.range n)[pre.length]? = some x := by rw [h]; simp
  have h2 : pre.length < (List.range n).length := by rw [h]; simp
  rw [List.length_range] at h2
  rw [List.getElem?_range h2] at h1
  exact ⟨(Option.some.inj h1).symm, h2⟩
theorem sl_drop (xs : List PyData) (k : Nat) : evSl (.list xs) (some (k : Int)) none = some (true, .list (xs.drop k)) := by
  show some (true, PyData.list (cutD xs (some (k : Int)) none)) = _
  unfold cutD
  rw [HT.sIx_none, HT.sIx_nat]
  rcases Nat.le_total k xs.length with h | h
  · rw [Nat.min_eq_left h, List.take_of_length_le (by rw [List.length_drop]; omega)]
  · rw [Nat.min_eq_right h, List.drop_eq_nil_of_le (Nat.le_refl _), List.drop_eq_nil_of_le h, List.take_nil]
theorem i_cat (a b : List PyData) : evBin .add (.list a) (.list b) = if lenOk (a.length + b.length) = true then some (true, .list (a ++ b)) else none := Eq.trans rfl (Eq.refl _)
theorem share_F {a s c : Nat} (hs : 0 < s) (e : c * s = a * 420) (h1 : 0 < a) (h2 : a < s) (hs9 : s < 16) : mkQ d (a : Int) 0 (s : Int) = F ((a : Rat) / (s : Rat)) ∧ Share c ((a : Rat) / (s : Rat)) ∧ Sz 10 (F ((a : Rat) / (s : Rat)) : Q d) := by
  have hs0 : (s : Rat) ≠ 0 := by
    have : ((s : Int) : Rat) ≠ 0 := cast_ne (by omega)
    rwa [Rat.intCast_natCast] at this
  have z : ((0 : Int) : Rat) = 0 := rfl
  have f1 : mkQ d (a : Int) 0 (s : Int) = F ((a : Rat) / (s : Rat)) := by
    refine mkQ_of (by omega) ?_ ?_
    · show (a : Rat) / (s : Rat) * _ = _
      rw [Rat.intCast_natCast, Rat.intCast_natCast]; grind
    · show (0 : Rat) * _ = _
      rw [z]; grind
  refine ⟨f1, ⟨?_, ?_, ?_⟩, ?_⟩
  · rcases Nat.eq_zero_or_pos c with h | h
    · subst h; omega
    · exact h
  · have h3 : c * s < 420 * s := by rw [e, Nat.mul_comm]; exact Nat.mul_lt_mul_of_pos_left h2 (by decide)
    exact Nat.lt_of_mul_lt_mul_right h3
  · have e2 : (c : Rat) * (s : Rat) = (a : Rat) * 420 := by
      have : ((c * s : Nat) : Rat) = ((a * 420 : Nat) : Rat) := by rw [e]
      rw [Rat.natCast_mul, Rat.natCast_mul] at this
      exact this
    grind
  · rw [← f1]
    exact Sz.of (by omega) (by omega) (by decide) (by omega)
def tile0 (w h : Q d) : Tl d := (0, 0, w, h)
/-- the share of a drawn cell -/
theorem share_of {s x : Nat} (h2 : 2 ≤ s) (h5 : s ≤ 5) : ∃ c, Share c (((1 + x % (s - 1) : Nat) : Rat) / (s : Rat)) ∧ mkQ d ((1 + x % (s - 1) : Nat) : Int) 0 (s : Int) = F (((1 + x % (s - 1) : Nat) : Rat) / (s : Rat)) ∧ Sz 10 (F (((1 + x % (s - 1) : Nat) : Rat) / (s : Rat)) : Q d) := by
  have hm : x % (s - 1) < s - 1 := Nat.mod_lt _ (by omega)
  have hc : ∃ c, c * s = (1 + x % (s - 1)) * 420 := by
    generalize 1 + x % (s - 1) = a
    have : s = 2 ∨ s = 3 ∨ s = 4 ∨ s = 5 := by omega
    rcases this with rfl | rfl | rfl | rfl
    · exact ⟨a * 210, by omega⟩
    · exact ⟨a * 140, by omega⟩
    · exact ⟨a * 105, by omega⟩
    · exact ⟨a * 84, by omega⟩
  obtain ⟨c, e⟩ := hc
  obtain ⟨f1, f2, f3⟩ := share_F (d := d) (by omega) e (by omega) (by omega) (by omega)
  exact ⟨c, f2, f1, f3⟩
theorem share_wheel {s : Nat} (h2 : 2 ≤ s) (h5 : s ≤ 5) : ∃ c, c ≤ 105 ∧ Share c (((1 : Nat) : Rat) / ((2 + s : Nat) : Rat)) ∧ mkQ d 1 0 ((2 + s : Nat) : Int) = F (((1 : Nat) : Rat) / ((2 + s : Nat) : Rat)) ∧ Sz 10 (F (((1 : Nat) : Rat) / ((2 + s : Nat) : Rat)) : Q d) := by
  have hc : ∃ c, c ≤ 105 ∧ c * (2 + s) = 1 * 420 := by
    have : s = 2 ∨ s = 3 ∨ s = 4 ∨ s = 5 := by omega
    rcases this with rfl | rfl | rfl | rfl
    · exact ⟨105, by decide, by decide⟩
    · exact ⟨84, by decide, by decide⟩
    · exact ⟨70, by decide, by decide⟩
    · exact ⟨60, by decide, by decide⟩
  obtain ⟨c, hc, e⟩ := hc
  obtain ⟨f1, f2, f3⟩ := share_F (d := d) (by omega) e (by omega) (by omega) (by omega)
  exact ⟨c, hc, f2, f1, f3⟩
theorem take_drop_at {α : Type} {l : List α} {k : Nat} (h : k < l.length) : l = l.take k ++ l[k] :: l.drop (k + 1) := by
  rw [← List.drop_eq_getElem_cons h, List.take_append_drop]
theorem pow_big : ∀ n : Nat, n ≤ 6 → 12 * 420 ^ n < 2 ^ 80 ∧ 96 * 1260 ^ n < 2 ^ 80
  | 0, _ => by decide
  | 1, _ => by decide
  | 2, _ => by decide
  | 3, _ => by decide
  | 4, _ => by decide
  | 5, _ => by decide
  | 6, _ => by decide
  | n + 7, h => absurd h (by omega)
theorem cut_loop [NSq d] {l : List Nat} {at0 many : Nat} {w h : Q d} (hd : d < 64) (h0 : DnT 12 96 (tile0 w h)) (hm : many ≤ 6) (hl : at0 + 3 * many ≤ l.length + 1) (hl2 : l.length ≤ 1000) (D : PyData) (hD : D = .list (l.map N)) (sh : PyData) :
    ∃ T, CutN [tile0 w h] many T ∧ ∃ j6 j7 j8 j9 j10 j11, forGo (.nm 6) (blk FUEL ib__law_cutting_1) ((List.range many).map N) [some (false, D), sI (at0 : Int), sI (d : Int), some (false, sh), sI (many : Int), some (false, .list ([tile0 w h].map encTl)), none, none, none, none, none, none] =
      some (.nx [some (false, D), sI (at0 : Int), sI (d : Int), some (false, sh), sI (many : Int), some (false, .list (T.map encTl)), j6, j7, j8, j9, j10, j11]) := by
  subst hD
  obtain ⟨ρ', e, T, hT, j6, j7, j8, j9, j10, j11, rfl⟩ := forGo_do (g := .nm 6) (f := blk FUEL ib__law_cutting_1) N (fun pre ρ => ∃ T, CutN [tile0 w h] pre.length T ∧ ∃ j6 j7 j8 j9 j10 j11, ρ = [some (false, .list (l.map N)), sI (at0 : Int), sI (d : Int), some (false, sh), sI (many : Int), some (false, .list (T.map encTl)), j6, j7, j8, j9, j10, j11]) (l := List.range many) (ρ := [some (false, .list (l.map N)), sI (at0 : Int), sI (d : Int), some (false, sh), sI (many : Int), some (false, .list ([tile0 w h].map encTl)), none, none, none, none, none, none]) ⟨_, .zero, none, none, none, none, none, none, rfl⟩ (by
    rintro pre x suf ρ hs ⟨T, hT, j6, j7, j8, j9, j10, j11, rfl⟩
    obtain ⟨hx, hlt⟩ := range_at hs
    subst hx
    generalize hpk : pre.length = k at *
    have hk : at0 + 3 * k + 1 < l.length := by omega
    have g0 := cell_is (l := l) (k := at0 + 3 * k) (by omega)
    have g1 := cell_is (l := l) (k := at0 + 3 * k + 1) hk
    have i0 : ((at0 + 3 * k : Nat) : Int) = (at0 : Int) + 3 * (k : Int) := by omega
    have i1 : ((at0 + 3 * k + 1 : Nat) : Int) = (at0 : Int) + 3 * (k : Int) + 1 := by omega
    rw [i0] at g0
    rw [i1] at g1
    generalize l[at0 + 3 * k] = c0 at *
    generalize l[at0 + 3 * k + 1] = c1 at *
    obtain ⟨l1, l2⟩ := cuts_len hT
    rw [List.length_singleton] at l1 l2
    have hdn := cuts_dn (T0 := [tile0 w h]) (S := 12) (B := 96) (fun t ht => by rw [List.mem_singleton.mp ht]; exact h0) hT
    obtain ⟨z1, z2⟩ := pow_big k (by omega)
    have hsz : ∀ t ∈ T, SzT 80 t := fun t ht => (hdn t ht).sz (Nat.mul_pos (by decide) (Nat.pow_pos (by decide))) z1 z2
    have hch : c0 % T.length < T.length := Nat.mod_lt _ (by omega)
    have htk := take_drop_at hch
    have hix : evIx (.list (T.map encTl)) (.int ((c0 % T.length : Nat) : Int)) = some (false, encTl (T[c0 % T.length])) := by
      show (L2.atI (T.map encTl) ((c0 % T.length : Nat) : Int)).map _ = _
      rw [atI_N, List.getElem?_map, List.getElem?_eq_getElem hch]
      rfl
    have hlenT : evBI .len [.list (T.map encTl)] = some (false, .int (T.length : Nat)) := by
      show some (false, PyData.int _) = _
      rw [List.length_map]
    have eC : (c0 : Int) % (T.length : Int) = ((c0 % T.length : Nat) : Int) := (Int.natCast_emod ..).symm
    have hs2 : 2 ≤ 2 + c1 / 3 % 4 := by omega
    have hs5 : 2 + c1 / 3 % 4 ≤ 5 := by omega
    have eS : (2 : Int) + (c1 : Int) / 3 % 4 = ((2 + c1 / 3 % 4 : Nat) : Int) := by omega
    generalize 2 + c1 / 3 % 4 = s at *
    have eA : (1 : Int) + (c0 : Int) / 5 % ((s : Int) - 1) = ((1 + c0 / 5 % (s - 1) : Nat) : Int) := by
      have u1 : (s : Int) - 1 = ((s - 1 : Nat) : Int) := by omega
      have u2 : (c0 : Int) / 5 = ((c0 / 5 : Nat) : Int) := by omega
      rw [u1, u2, ← Int.natCast_emod]
      omega
    have eW : (2 : Int) + (s : Int) = ((2 + s : Nat) : Int) := by omega
    have v3 : divOk 3 = true := by decide
    have v5 : divOk 5 = true := by decide
    have v7 : divOk 7 = true := by decide
    have v11 : divOk 11 = true := by decide
    have f3 : (c1 : Int).fdiv 3 = (c1 : Int) / 3 := Int.fdiv_eq_ediv_of_nonneg _ (by decide)
    have f5 : (c0 : Int).fdiv 5 = (c0 : Int) / 5 := Int.fdiv_eq_ediv_of_nonneg _ (by decide)
    have f7 : (c0 : Int).fdiv 7 = (c0 : Int) / 7 := Int.fdiv_eq_ediv_of_nonneg _ (by decide)
    have f11 : (c0 : Int).fdiv 11 = (c0 : Int) / 11 := Int.fdiv_eq_ediv_of_nonneg _ (by decide)
    have m3k : mulOk 3 (k : Int) = true := mulOk_b (k := 2) (l := 10) (by decide) (by omega) (by decide)
    obtain ⟨c, q1, q2, q3⟩ := share_of (d := d) (x := c0 / 5) hs2 hs5
    have hL := length_is (d := d) (p := ((1 + c0 / 5 % (s - 1) : Nat) : Int)) (q := 0) (s := (s : Int)) (k := 10) (by omega) (by have := Nat.mod_lt (c0 / 5) (show 0 < s - 1 by omega); omega) (by decide) (by omega) (by decide)
    rw [q2] at hL
    obtain ⟨c', w0, w1, w2, w3⟩ := share_wheel (d := d) hs2 hs5
    have hLw := length_is (d := d) (p := 1) (q := 0) (s := ((2 + s : Nat) : Int)) (k := 10) (by omega) (by decide) (by decide) (by omega) (by decide)
    rw [w2] at hLw
    generalize ((1 + c0 / 5 % (s - 1) : Nat) : Rat) / (s : Rat) = r at *
    generalize ((1 : Nat) : Rat) / ((2 + s : Nat) : Rat) = r' at *
    have ht := hsz _ (List.getElem_mem hch)
    have hW := wheel_is hd ht w3 (by decide)
    have hSp := split_is (side := c0 / 7 % 2) (c := c) hd (by omega) ht q3 (by decide)
    have e7 : (c0 : Int) / 7 % 2 = ((c0 / 7 % 2 : Nat) : Int) := by omega
    generalize hu : T[c0 % T.length] = u at *
    generalize c0 / 7 % 2 = side at *
    generalize hcc : c0 % T.length = ch at *
    have eP : (ch : Int) + 1 = ((ch + 1 : Nat) : Int) := by omega
    have hTp : (0 : Int) < (T.length : Int) := by omega
    have hs1 : (0 : Int) < (s : Int) - 1 := by omega
    have splitlen : (splitT side u r).length = 2 := by unfold splitT; split <;> rfl
    have lw : lenOk (((T.map encTl).take ch).length + ((wheelT u r').map encTl).length) = true := lenOk_of (by rw [List.length_take, List.length_map, List.length_map]; show min ch T.length + 5 ≤ _; omega)
    have lw2 : lenOk (((T.map encTl).take ch ++ (wheelT u r').map encTl).length + ((T.map encTl).drop (ch + 1)).length) = true := lenOk_of (by rw [List.length_append, List.length_take, List.length_map, List.length_map, List.length_drop, List.length_map]; show min ch T.length + 5 + _ ≤ _; omega)
    have ls : lenOk (((T.map encTl).take ch).length + ((splitT side u r).map encTl).length) = true := lenOk_of (by rw [List.length_take, List.length_map, List.length_map, splitlen]; omega)
    have ls2 : lenOk (((T.map encTl).take ch ++ (splitT side u r).map encTl).length + ((T.map encTl).drop (ch + 1)).length) = true := lenOk_of (by rw [List.length_append, List.length_take, List.length_map, List.length_map, List.length_drop, List.length_map, splitlen]; omega)
    by_cases hc3 : c0 / 11 % 5 = 3
    · have e11 : decide ((c0 : Int) / 11 % 5 = 3) = true := decide_eq_true (by omega)
      refine ⟨_, _, rfl, ?_, T.take ch ++ wheelT u r' ++ T.drop (ch + 1), ?_, sI (k : Int), sI (c0 : Int), sI (ch : Int), sI (s : Int), sQ (F r : Q d), some (false, .list ((wheelT u r').map encTl)), rfl⟩
      · unfold blk ib__law_cutting_1
        simp only [q_wipeR_1, q_wipeR_2, q_asg_1, q_asg_2, q_asg_3, q_asg_4, q_asg_5, q_asg_6, q_asg_7, q_asgR_1, q_ownedArg_1, q_ownedArgs_1, q_ownedArgs_2, q_itemsOf_1, q_itemsOf_2, q_evE_1, q_evE_2, q_evE_3, q_evE_4, q_evE_5, q_evE_6, q_evE_7, q_evE_8, q_evE_9, q_evE_10, q_evE_11, q_evE_12, q_evE_13, q_evE_14, q_evE_15, q_evE_16, q_evE_17, q_evE_18, q_evE_19, q_evE_20, q_evEs_1, q_evEs_2, q_evP_1, q_evP_2, q_evC_1, q_evC_2, q_evI_1, q_evI_2, q_evRet_1, q_evS_1, q_evS_2, q_evS_3, q_evS_4, q_evS_5, q_evS_6, q_evS_7, q_evS_8, q_evS_9, q_evS_10, q_evS_11, q_evS_12, q_evS_13, q_evS_14, q_evS_15, q_evS_16, q_evSs_1, q_evSs_2, q_oa_0, q_rt_0, q_oa_1, q_rt_1, q_oa_2, q_rt_2, q_oa_3, q_rt_3, q_oa_4, q_rt_4, q_oa_5, q_rt_5, q_oa_6, q_rt_6, q_oa_7, q_rt_7, q_oa_8, q_rt_8, q_oa_9, q_rt_9, q_oa_10, q_rt_10, q_oa_11, q_rt_11, q_oa_12, q_rt_12, q_oa_13, q_rt_13, q_oa_14, q_rt_14, q_oa_15, q_rt_15, q_oa_16, q_rt_16, q_oa_17, q_rt_17, q_oa_18, q_rt_18, q_ar_0, q_ar_1, q_ar_2, asI_i, q_ret, q_bind, q_bindn, q_map, q_mapn, q_evT, q_own, startR, List.getElem?_cons_succ, List.getElem?_cons_zero, List.set_cons_succ, List.set_cons_zero, List.map_cons, List.map_nil, List.replicate, List.length_cons, List.length_nil, List.append_eq, List.nil_append, List.cons_append, Bool.and_true, Bool.true_and, Bool.and_false, Bool.false_and, Bool.not_true, Bool.not_false, if_true, if_false, reduceCtorEq, Nat.reduceSub, Nat.reduceAdd, Nat.reduceLeDiff, Bool.false_eq_true, Bool.or_false, Bool.false_or, ite_true, ite_false, lenOk_0, lenOk_1, lenOk_2, lenOk_3, lenOk_4, lenOk_5, lenOk_6, lenOk_7, lenOk_8, i_add, i_sub, i_neg, i_asI, N_int, i_inti, i_intb, decide_true, decide_false, i_mul, m3k, g0, g1, hlenT, i_mod hTp, eC, i_fdiv, v3, v5, v11, f3, f5, f11, i_mod (show (0 : Int) < 4 by decide), i_mod (show (0 : Int) < 5 by decide), eS, i_mod hs1, eA, hL, i_eq, e11, hix, eW, hLw, hW, n_slh, sl_drop, eP, i_cat, lw, lw2]
        rw [List.map_append, List.map_append, List.map_take, List.map_drop]
      · rw [List.length_append, List.length_singleton, hpk]
        exact .succ hT (.wheel c' r' htk w1 w0)
    · have e11 : decide ((c0 : Int) / 11 % 5 = 3) = false := decide_eq_false (by omega)
      refine ⟨_, _, rfl, ?_, T.take ch ++ splitT side u r ++ T.drop (ch + 1), ?_, sI (k : Int), sI (c0 : Int), sI (ch : Int), sI (s : Int), sQ (F r : Q d), some (false, .list ((splitT side u r).map encTl)), rfl⟩
      · unfold blk ib__law_cutting_1
        simp only [q_wipeR_1, q_wipeR_2, q_asg_1, q_asg_2, q_asg_3, q_asg_4, q_asg_5, q_asg_6, q_asg_7, q_asgR_1, q_ownedArg_1, q_ownedArgs_1, q_ownedArgs_2, q_itemsOf_1, q_itemsOf_2, q_evE_1, q_evE_2, q_evE_3, q_evE_4, q_evE_5, q_evE_6, q_evE_7, q_evE_8, q_evE_9, q_evE_10, q_evE_11, q_evE_12, q_evE_13, q_evE_14, q_evE_15, q_evE_16, q_evE_17, q_evE_18, q_evE_19, q_evE_20, q_evEs_1, q_evEs_2, q_evP_1, q_evP_2, q_evC_1, q_evC_2, q_evI_1, q_evI_2, q_evRet_1, q_evS_1, q_evS_2, q_evS_3, q_evS_4, q_evS_5, q_evS_6, q_evS_7, q_evS_8, q_evS_9, q_evS_10, q_evS_11, q_evS_12, q_evS_13, q_evS_14, q_evS_15, q_evS_16, q_evSs_1, q_evSs_2, q_oa_0, q_rt_0, q_oa_1, q_rt_1, q_oa_2, q_rt_2, q_oa_3, q_rt_3, q_oa_4, q_rt_4, q_oa_5, q_rt_5, q_oa_6, q_rt_6, q_oa_7, q_rt_7, q_oa_8, q_rt_8, q_oa_9, q_rt_9, q_oa_10, q_rt_10, q_oa_11, q_rt_11, q_oa_12, q_rt_12, q_oa_13, q_rt_13, q_oa_14, q_rt_14, q_oa_15, q_rt_15, q_oa_16, q_rt_16, q_oa_17, q_rt_17, q_oa_18, q_rt_18, q_ar_0, q_ar_1, q_ar_2, asI_i, q_ret, q_bind, q_bindn, q_map, q_mapn, q_evT, q_own, startR, List.getElem?_cons_succ, List.getElem?_cons_zero, List.set_cons_succ, List.set_cons_zero, List.map_cons, List.map_nil, List.replicate, List.length_cons, List.length_nil, List.append_eq, List.nil_append, List.cons_append, Bool.and_true, Bool.true_and, Bool.and_false, Bool.false_and, Bool.not_true, Bool.not_false, if_true, if_false, reduceCtorEq, Nat.reduceSub, Nat.reduceAdd, Nat.reduceLeDiff, Bool.false_eq_true, Bool.or_false, Bool.false_or, ite_true, ite_false, lenOk_0, lenOk_1, lenOk_2, lenOk_3, lenOk_4, lenOk_5, lenOk_6, lenOk_7, lenOk_8, i_add, i_sub, i_neg, i_asI, N_int, i_inti, i_intb, decide_true, decide_false, i_mul, m3k, g0, g1, hlenT, i_mod hTp, eC, i_fdiv, v3, v5, v7, v11, f3, f5, f7, f11, i_mod (show (0 : Int) < 4 by decide), i_mod (show (0 : Int) < 5 by decide), i_mod (show (0 : Int) < 2 by decide), eS, i_mod hs1, eA, hL, i_eq, e11, hix, e7, hSp, n_slh, sl_drop, eP, i_cat, ls, ls2]
        rw [List.map_append, List.map_append, List.map_take, List.map_drop]
      · rw [List.length_append, List.length_singleton, hpk]
        exact .succ hT (.split side c r htk q1))
  rw [List.length_range] at hT
  exact ⟨T, hT, j6, j7, j8, j9, j10, j11, e⟩
theorem tile0_dn {w h : Q d} (hw : Dn 12 96 w) (hh : Dn 12 96 h) : DnT 12 96 (tile0 w h) := ⟨Dn.zero.mono (by decide), Dn.zero.mono (by decide), hw, hh⟩
theorem cutting_is [NSq d] {l : List Nat} {at0 many : Nat} {w h : Q d} (hd : d < 64) (hw : Dn 12 96 w) (hh : Dn 12 96 h) (hm : many ≤ 6) (hl : at0 + 3 * many ≤ l.length + 1) (hl2 : l.length ≤ 1000) :
    ∃ T, CutN [tile0 w h] many T ∧ f__law_cutting [.list (l.map N), .int (at0 : Int), .int (d : Int), .tuple [L w, L h], .int (many : Int)] = some (true, .list ((orderT [] T).map encTl)) := by
  obtain ⟨T, hT, j6, j7, j8, j9, j10, j11, e⟩ := cut_loop hd (tile0_dn hw hh) hm hl hl2 _ rfl (.tuple [L w, L h])
  refine ⟨T, hT, ?_⟩
  have hdn := cuts_dn (T0 := [tile0 w h]) (S := 12) (B := 96) (fun t ht => by rw [List.mem_singleton.mp ht]; exact tile0_dn hw hh) hT
  obtain ⟨z1, z2⟩ := pow_big many hm
  have hsz : ∀ t ∈ T, SzT 80 t := fun t ht => (hdn t ht).sz (Nat.mul_pos (by decide) (Nat.pow_pos (by decide))) z1 z2
  obtain ⟨l1, l2⟩ := cuts_len hT
  rw [List.length_singleton] at l1 l2
  have ho := in_order_is hd (show 80 ≤ 3000 by decide) hsz (by omega)
  have hz := whole_is (d := d) 0
  have zc : ((0 : Int) : Q d) = 0 := rfl
  rw [zc] at hz
  have hr : evRng [.int (many : Int)] = some ((List.range many).map N) := n_rng1 (n := many) (by omega)
  have e0 : PyData.tuple [L (0 : Q d), L (0 : Q d), L w, L h] = encTl (tile0 w h) := rfl
  rw [List.map_cons, List.map_nil] at e
  unfold f__law_cutting evDef ir__law_cutting
  simp only [q_wipeR_1, q_wipeR_2, q_asg_1, q_asg_2, q_asg_3, q_asg_4, q_asg_5, q_asg_6, q_asg_7, q_asgR_1, q_ownedArg_1, q_ownedArgs_1, q_ownedArgs_2, q_itemsOf_1, q_itemsOf_2, q_evE_1, q_evE_2, q_evE_3, q_evE_4, q_evE_5, q_evE_6, q_evE_7, q_evE_8, q_evE_9, q_evE_10, q_evE_11, q_evE_12, q_evE_13, q_evE_14, q_evE_15, q_evE_16, q_evE_17, q_evE_18, q_evE_19, q_evE_20, q_evEs_1, q_evEs_2, q_evP_1, q_evP_2, q_evC_1, q_evC_2, q_evI_1, q_evI_2, q_evRet_1, q_evS_1, q_evS_2, q_evS_3, q_evS_4, q_evS_5, q_evS_6, q_evS_7, q_evS_8, q_evS_9, q_evS_10, q_evS_11, q_evS_12, q_evS_13, q_evS_14, q_evS_15, q_evS_16, q_evSs_1, q_evSs_2, q_oa_0, q_rt_0, q_oa_1, q_rt_1, q_oa_2, q_rt_2, q_oa_3, q_rt_3, q_oa_4, q_rt_4, q_oa_5, q_rt_5, q_oa_6, q_rt_6, q_oa_7, q_rt_7, q_oa_8, q_rt_8, q_oa_9, q_rt_9, q_oa_10, q_rt_10, q_oa_11, q_rt_11, q_oa_12, q_rt_12, q_oa_13, q_rt_13, q_oa_14, q_rt_14, q_oa_15, q_rt_15, q_oa_16, q_rt_16, q_oa_17, q_rt_17, q_oa_18, q_rt_18, q_ar_0, q_ar_1, q_ar_2, asI_i, q_ret, q_bind, q_bindn, q_map, q_mapn, q_evT, q_own, startR, List.getElem?_cons_succ, List.getElem?_cons_zero, List.set_cons_succ, List.set_cons_zero, List.map_cons, List.map_nil, List.replicate, List.length_cons, List.length_nil, List.append_eq, List.nil_append, List.cons_append, Bool.and_true, Bool.true_and, Bool.and_false, Bool.false_and, Bool.not_true, Bool.not_false, if_true, if_false, reduceCtorEq, Nat.reduceSub, Nat.reduceAdd, Nat.reduceLeDiff, Bool.false_eq_true, Bool.or_false, Bool.false_or, ite_true, ite_false, lenOk_0, lenOk_1, lenOk_2, lenOk_3, lenOk_4, lenOk_5, lenOk_6, lenOk_7, lenOk_8, i_add, i_sub, i_neg, i_asI, N_int, i_inti, i_intb, decide_true, decide_false, hz, ix_t0, ix_t1, e0, hr]
  rw [e]
  simp only [q_wipeR_1, q_wipeR_2, q_asg_1, q_asg_2, q_asg_3, q_asg_4, q_asg_5, q_asg_6, q_asg_7, q_asgR_1, q_ownedArg_1, q_ownedArgs_1, q_ownedArgs_2, q_itemsOf_1, q_itemsOf_2, q_evE_1, q_evE_2, q_evE_3, q_evE_4, q_evE_5, q_evE_6, q_evE_7, q_evE_8, q_evE_9, q_evE_10, q_evE_11, q_evE_12, q_evE_13, q_evE_14, q_evE_15, q_evE_16, q_evE_17, q_evE_18, q_evE_19, q_evE_20, q_evEs_1, q_evEs_2, q_evP_1, q_evP_2, q_evC_1, q_evC_2, q_evI_1, q_evI_2, q_evRet_1, q_evS_1, q_evS_2, q_evS_3, q_evS_4, q_evS_5, q_evS_6, q_evS_7, q_evS_8, q_evS_9, q_evS_10, q_evS_11, q_evS_12, q_evS_13, q_evS_14, q_evS_15, q_evS_16, q_evSs_1, q_evSs_2, q_oa_0, q_rt_0, q_oa_1, q_rt_1, q_oa_2, q_rt_2, q_oa_3, q_rt_3, q_oa_4, q_rt_4, q_oa_5, q_rt_5, q_oa_6, q_rt_6, q_oa_7, q_rt_7, q_oa_8, q_rt_8, q_oa_9, q_rt_9, q_oa_10, q_rt_10, q_oa_11, q_rt_11, q_oa_12, q_rt_12, q_oa_13, q_rt_13, q_oa_14, q_rt_14, q_oa_15, q_rt_15, q_oa_16, q_rt_16, q_oa_17, q_rt_17, q_oa_18, q_rt_18, q_ar_0, q_ar_1, q_ar_2, asI_i, q_ret, q_bind, q_bindn, q_map, q_mapn, q_evT, q_own, startR, List.getElem?_cons_succ, List.getElem?_cons_zero, List.set_cons_succ, List.set_cons_zero, List.map_cons, List.map_nil, List.replicate, List.length_cons, List.length_nil, List.append_eq, List.nil_append, List.cons_append, Bool.and_true, Bool.true_and, Bool.and_false, Bool.false_and, Bool.not_true, Bool.not_false, if_true, if_false, reduceCtorEq, Nat.reduceSub, Nat.reduceAdd, Nat.reduceLeDiff, Bool.false_eq_true, Bool.or_false, Bool.false_or, ite_true, ite_false, lenOk_0, lenOk_1, lenOk_2, lenOk_3, lenOk_4, lenOk_5, lenOk_6, lenOk_7, lenOk_8, i_add, i_sub, i_neg, i_asI, N_int, i_inti, i_intb, decide_true, decide_false, ho]
end K83

set_option Elab.async false
set_option linter.all false
set_option maxRecDepth 100000
set_option maxHeartbeats 4000000
namespace K83
open PySem L2 PV Qu
variable {d : Nat}
/-! ### sides of cut tiles are above 0 -/
theorem F_pos [NSq d] {r : Rat} (h : 0 < r) : (0 : Q d) < F r := by
  show Q.pos (F r - 0 : Q d)
  have e : (F r - 0 : Q d) = F r := by grind
  rw [e]
  left
  refine ⟨h, ?_⟩
  show 0 < r * r - (d : Rat) * (0 * 0)
  have := Rat.mul_pos h h
  grind
theorem mul_pos_q [NSq d] {x y : Q d} (hx : 0 < x) (hy : 0 < y) : 0 < x * y := by
  have h1 : Q.pos (x - 0) := hx
  have h2 : Q.pos (y - 0) := hy
  have h3 := Q.pos_mul h1 h2
  show Q.pos (x * y - 0)
  have e : (x - 0) * (y - 0) = x * y - 0 := by grind
  rwa [e] at h3
theorem share_pos {c : Nat} {r : Rat} (h : Share c r) : 0 < r ∧ r < 1 := by
  obtain ⟨h1, h2, h3⟩ := h
  have a : (0 : Rat) < (c : Rat) := by exact_mod_cast h1
  have b : (c : Rat) < 420 := by exact_mod_cast h2
  constructor <;> grind
theorem one_F (r : Rat) : (1 : Q d) - F r = F (1 - r) := ext' (by show (1 : Rat) - r = 1 - r; rfl) (by show (0 : Rat) - 0 = 0; grind)
theorem left_pos [NSq d] {c : Nat} {r : Rat} {x : Q d} (h : Share c r) (hx : 0 < x) : 0 < x * F r ∧ 0 < x - x * F r := by
  obtain ⟨h1, h2⟩ := share_pos h
  have a := mul_pos_q hx (F_pos (d := d) h1)
  have b := mul_pos_q hx (F_pos (d := d) (show 0 < 1 - r by grind))
  rw [← one_F] at b
  exact ⟨a, by grind⟩
theorem mid_pos [NSq d] {c : Nat} {r : Rat} {x : Q d} (h : Share c r) (hc : c ≤ 105) (hx : 0 < x) : 0 < x - x * F r - x * F r := by
  obtain ⟨h1, h2, h3⟩ := h
  have b : (c : Rat) ≤ 105 := by exact_mod_cast hc
  have e : x - x * F r - x * F r = x * F (1 - r - r) := by
    have : (F (1 - r - r) : Q d) = 1 - F r - F r := ext' (by show _ = (1 : Rat) - r - r; rfl) (by show (0 : Rat) = 0 - 0 - 0; grind)
    rw [this]; grind
  rw [e]
  exact mul_pos_q hx (F_pos (by grind))
def PosT [NSq d] (t : Tl d) : Prop := 0 < t.2.2.1 ∧ 0 < t.2.2.2
theorem cut_pos [NSq d] {T T' : List (Tl d)} (h : Cut1 T T') (hT : ∀ t ∈ T, PosT t) : ∀ t ∈ T', PosT t := by
  intro u hu
  cases h with
  | @split A B t side c r e hr =>
    have ht : PosT t := hT t (by rw [e]; simp)
    obtain ⟨a1, a2⟩ := left_pos hr ht.1
    obtain ⟨b1, b2⟩ := left_pos hr ht.2
    rcases List.mem_append.mp hu with hu | hu
    · rcases List.mem_append.mp hu with hu | hu
      · exact hT u (by rw [e]; exact List.mem_append_left _ hu)
      · unfold splitT at hu
        split at hu
        · simp only [List.mem_cons, List.not_mem_nil, or_false] at hu
          rcases hu with rfl | rfl
          · exact ⟨a1, ht.2⟩
          · exact ⟨a2, ht.2⟩
        · simp only [List.mem_cons, List.not_mem_nil, or_false] at hu
          rcases hu with rfl | rfl
          · exact ⟨ht.1, b1⟩
          · exact ⟨ht.1, b2⟩
    · exact hT u (by rw [e]; exact List.mem_append_right _ (List.mem_cons_of_mem _ hu))
  | @wheel A B t c r e hr hc =>
    have ht : PosT t := hT t (by rw [e]; simp)
    obtain ⟨a1, a2⟩ := left_pos hr ht.1
    obtain ⟨b1, b2⟩ := left_pos hr ht.2
    rcases List.mem_append.mp hu with hu | hu
    · rcases List.mem_append.mp hu with hu | hu
      · exact hT u (by rw [e]; exact List.mem_append_left _ hu)
      · unfold wheelT at hu
        simp only [List.mem_cons, List.not_mem_nil, or_false] at hu
        rcases hu with rfl | rfl | rfl | rfl | rfl
        · exact ⟨a2, b1⟩
        · exact ⟨a1, b2⟩
        · exact ⟨a2, b1⟩
        · exact ⟨a1, b2⟩
        · exact ⟨mid_pos hr hc ht.1, mid_pos hr hc ht.2⟩
    · exact hT u (by rw [e]; exact List.mem_append_right _ (List.mem_cons_of_mem _ hu))
theorem cuts_pos [NSq d] {T0 : List (Tl d)} (h0 : ∀ t ∈ T0, PosT t) : ∀ {n : Nat} {T : List (Tl d)}, CutN T0 n T → ∀ t ∈ T, PosT t
  | _, _, .zero => h0
  | _, _, .succ h c => cut_pos c (cuts_pos h0 h)
/-! ### sums over tiles that a cut keeps -/
/-- a sum of f of the sides that is additive stays -/
theorem cut_sum {f : Q d → Q d → Rat} (fl : ∀ x y h : Q d, f (x + y) h = f x h + f y h) (fr : ∀ w x y : Q d, f w (x + y) = f w x + f w y) {T T' : List (Tl d)} (h : Cut1 T T') : rs (T'.map fun t => f t.2.2.1 t.2.2.2) = rs (T.map fun t => f t.2.2.1 t.2.2.2) := by
  have fs : ∀ x y h : Q d, f (x - y) h = f x h - f y h := fun x y h => by
    have := fl (x - y) y h
    have e : x - y + y = x := by grind
    rw [e] at this
    grind
  have fs2 : ∀ w x y : Q d, f w (x - y) = f w x - f w y := fun w x y => by
    have := fr w (x - y) y
    have e : x - y + y = x := by grind
    rw [e] at this
    grind
  cases h with
  | @split A B t side c r e hr =>
    rw [e, List.map_append, List.map_append, List.map_append, rs_append, rs_append, rs_append, List.map_cons]
    unfold splitT
    split
    · simp only [List.map_cons, List.map_nil, rs, fs]
      grind
    · simp only [List.map_cons, List.map_nil, rs, fs2]
      grind
  | @wheel A B t c r e hr hc =>
    rw [e, List.map_append, List.map_append, List.map_append, rs_append, rs_append, rs_append, List.map_cons]
    unfold wheelT
    simp only [List.map_cons, List.map_nil, rs, fs, fs2]
    grind
theorem cuts_sum {f : Q d → Q d → Rat} (fl : ∀ x y h : Q d, f (x + y) h = f x h + f y h) (fr : ∀ w x y : Q d, f w (x + y) = f w x + f w y) {T0 : List (Tl d)} : ∀ {n : Nat} {T : List (Tl d)}, CutN T0 n T → rs (T.map fun t => f t.2.2.1 t.2.2.2) = rs (T0.map fun t => f t.2.2.1 t.2.2.2)
  | _, _, .zero => rfl
  | _, _, .succ h c => (cut_sum fl fr c).trans (cuts_sum fl fr h)
end K83

set_option Elab.async false
set_option linter.all false
set_option maxRecDepth 100000
set_option maxHeartbeats 4000000
namespace K83
open PySem L2 PV Qu LL
open Classical
variable {d : Nat}
/-! ### the four edges of a cut sheet -/
inductive Ch (lf rg : Tl d → Q d) (P : Tl d → Prop) : Q d → Q d → Prop
  | nil (a : Q d) : Ch lf rg P a a
  | cons {t : Tl d} {b : Q d} : P t → Ch lf rg P (rg t) b → Ch lf rg P (lf t) b
section
variable {lf rg : Tl d → Q d} {P P' : Tl d → Prop}
theorem Ch.link {t : Tl d} (h : P t) {a b : Q d} (ha : lf t = a) (hb : rg t = b) : Ch lf rg P a b := by
  subst ha
  subst hb
  exact .cons h (.nil _)
theorem Ch.app {a b c : Q d} (h : Ch lf rg P a b) (g : Ch lf rg P b c) : Ch lf rg P a c := by
  induction h with
  | nil a => exact g
  | cons h1 _ ih => exact .cons h1 (ih g)
theorem Ch.repl {a b : Q d} (h : Ch lf rg P a b) (k : ∀ t, P t → Ch lf rg P' (lf t) (rg t)) : Ch lf rg P' a b := by
  induction h with
  | nil a => exact .nil a
  | cons h1 _ ih => exact (k _ h1).app ih
theorem Ch.first {a b : Q d} (h : Ch lf rg P a b) (hab : a ≠ b) : ∃ t, P t ∧ lf t = a := by
  cases h with
  | nil => exact absurd rfl hab
  | cons h1 _ => exact ⟨_, h1, rfl⟩
theorem Ch.final {a b : Q d} (h : Ch lf rg P a b) (hab : a ≠ b) : ∃ t, P t ∧ rg t = b := by
  induction h with
  | nil => exact absurd rfl hab
  | @cons t b h1 h2 ih =>
    by_cases c : rg t = b
    · exact ⟨t, h1, c⟩
    · exact ih c
theorem Ch.c1 [NSq d] {a b : Q d} (h : Ch lf rg P a b) (p : Q d) (h1 : a < p) (h2 : p ≤ b) : ∃ t, P t ∧ lf t < p ∧ p ≤ rg t := by
  induction h with
  | nil a => exact absurd h1 (by grind)
  | @cons t b hp _ ih =>
    by_cases c : p ≤ rg t
    · exact ⟨t, hp, h1, c⟩
    · exact ih (by grind) h2
theorem Ch.c2 [NSq d] {a b : Q d} (h : Ch lf rg P a b) (p : Q d) (h1 : a ≤ p) (h2 : p < b) : ∃ t, P t ∧ lf t ≤ p ∧ p < rg t := by
  induction h with
  | nil a => exact absurd h1 (by grind)
  | @cons t b hp _ ih =>
    by_cases c : p < rg t
    · exact ⟨t, hp, h1, c⟩
    · exact ih (by grind) h2
end
def fx (t : Tl d) : Q d := t.1
def fr (t : Tl d) : Q d := t.1 + t.2.2.1
def fy (t : Tl d) : Q d := t.2.1
def ft (t : Tl d) : Q d := t.2.1 + t.2.2.2
/-- tiles within x .. x + w, y .. y + h whose outer edges are the four edges -/
structure Fit [NSq d] (T : List (Tl d)) (s : Tl d) : Prop where
  pos : ∀ t ∈ T, 0 < t.2.2.1 ∧ 0 < t.2.2.2
  ins : ∀ t ∈ T, fx s ≤ fx t ∧ fr t ≤ fr s ∧ fy s ≤ fy t ∧ ft t ≤ ft s
  lo : Ch fx fr (fun t => t ∈ T ∧ fy t = fy s) (fx s) (fr s)
  hi : Ch fx fr (fun t => t ∈ T ∧ ft t = ft s) (fx s) (fr s)
  le : Ch fy ft (fun t => t ∈ T ∧ fx t = fx s) (fy s) (ft s)
  ri : Ch fy ft (fun t => t ∈ T ∧ fr t = fr s) (fy s) (ft s)
theorem Fit.one [NSq d] {s : Tl d} (h : 0 < s.2.2.1 ∧ 0 < s.2.2.2) : Fit [s] s := by
  have m : s ∈ [s] := List.mem_singleton.mpr rfl
  refine ⟨fun t ht => by rw [List.mem_singleton.mp ht]; exact h, fun t ht => by rw [List.mem_singleton.mp ht]; exact ⟨Std.le_refl _, Std.le_refl _, Std.le_refl _, Std.le_refl _⟩, .link ⟨m, rfl⟩ rfl rfl, .link ⟨m, rfl⟩ rfl rfl, .link ⟨m, rfl⟩ rfl rfl, .link ⟨m, rfl⟩ rfl rfl⟩
/-- a tile of a fitting list cut into a fitting list -/
theorem Fit.into [NSq d] {A B M : List (Tl d)} {t s : Tl d} (h : Fit (A ++ t :: B) s) (g : Fit M t) : Fit (A ++ M ++ B) s := by
  have ht := h.ins t (by simp)
  have mem : ∀ u, u ∈ A ++ M ++ B ↔ u ∈ A ∨ u ∈ M ∨ u ∈ B := fun u => by simp [or_assoc]
  have old : ∀ u, u ∈ A ++ t :: B → u = t ∨ u ∈ A ++ M ++ B := fun u hu => by
    rcases List.mem_append.mp hu with hu | hu
    · exact .inr ((mem u).mpr (.inl hu))
    · rcases List.mem_cons.mp hu with hu | hu
      · exact .inl hu
      · exact .inr ((mem u).mpr (.inr (.inr hu)))
  have new : ∀ u ∈ M, u ∈ A ++ M ++ B := fun u hu => (mem u).mpr (.inr (.inl hu))
  refine ⟨fun u hu => ?_, fun u hu => ?_, ?_, ?_, ?_, ?_⟩
  · rcases (mem u).mp hu with hu | hu | hu
    · exact h.pos u (by simp [hu])
    · exact g.pos u hu
    · exact h.pos u (by simp [hu])
  · rcases (mem u).mp hu with hu | hu | hu
    · exact h.ins u (by simp [hu])
    · obtain ⟨a1, a2, a3, a4⟩ := g.ins u hu
      obtain ⟨b1, b2, b3, b4⟩ := ht
      exact ⟨by grind, by grind, by grind, by grind⟩
    · exact h.ins u (by simp [hu])
  · refine h.lo.repl fun u hu => ?_
    rcases old u hu.1 with rfl | k
    · exact g.lo.repl fun v hv => .link ⟨new v hv.1, hv.2.trans hu.2⟩ rfl rfl
    · exact .link ⟨k, hu.2⟩ rfl rfl
  · refine h.hi.repl fun u hu => ?_
    rcases old u hu.1 with rfl | k
    · exact g.hi.repl fun v hv => .link ⟨new v hv.1, hv.2.trans hu.2⟩ rfl rfl
    · exact .link ⟨k, hu.2⟩ rfl rfl
  · refine h.le.repl fun u hu => ?_
    rcases old u hu.1 with rfl | k
    · exact g.le.repl fun v hv => .link ⟨new v hv.1, hv.2.trans hu.2⟩ rfl rfl
    · exact .link ⟨k, hu.2⟩ rfl rfl
  · refine h.ri.repl fun u hu => ?_
    rcases old u hu.1 with rfl | k
    · exact g.ri.repl fun v hv => .link ⟨new v hv.1, hv.2.trans hu.2⟩ rfl rfl
    · exact .link ⟨k, hu.2⟩ rfl rfl
theorem Fit.perm [NSq d] {T U : List (Tl d)} {s : Tl d} (h : Fit T s) (p : U.Perm T) : Fit U s := by
  have m : ∀ u, u ∈ T → u ∈ U := fun u hu => p.mem_iff.mpr hu
  exact ⟨fun t ht => h.pos t (p.mem_iff.mp ht), fun t ht => h.ins t (p.mem_iff.mp ht), h.lo.repl fun t ht => .link ⟨m t ht.1, ht.2⟩ rfl rfl, h.hi.repl fun t ht => .link ⟨m t ht.1, ht.2⟩ rfl rfl, h.le.repl fun t ht => .link ⟨m t ht.1, ht.2⟩ rfl rfl, h.ri.repl fun t ht => .link ⟨m t ht.1, ht.2⟩ rfl rfl⟩
theorem fit_split0 [NSq d] {x y w h l m : Q d} (hl : 0 < l) (hm : 0 < m) (hh : 0 < h) (e : l + m = w) : Fit [((x, y, l, h) : Tl d), (x + l, y, m, h)] (x, y, w, h) := by
  have e2 : x + l + m = x + w := by rw [← e]; grind
  have m1 : ((x, y, l, h) : Tl d) ∈ [((x, y, l, h) : Tl d), (x + l, y, m, h)] := by simp
  have m2 : ((x + l, y, m, h) : Tl d) ∈ [((x, y, l, h) : Tl d), (x + l, y, m, h)] := by simp
  refine ⟨fun t ht => ?_, fun t ht => ?_, ?_, ?_, ?_, ?_⟩
  · simp only [List.mem_cons, List.not_mem_nil, or_false] at ht
    rcases ht with rfl | rfl
    · exact ⟨hl, hh⟩
    · exact ⟨hm, hh⟩
  · simp only [List.mem_cons, List.not_mem_nil, or_false] at ht
    rcases ht with rfl | rfl <;> refine ⟨?_, ?_, ?_, ?_⟩ <;> simp only [fx, fr, fy, ft] <;> grind
  · exact (Ch.link (t := (x, y, l, h)) ⟨m1, rfl⟩ rfl rfl).app (.link (t := (x + l, y, m, h)) ⟨m2, rfl⟩ rfl e2)
  · exact (Ch.link (t := (x, y, l, h)) ⟨m1, rfl⟩ rfl rfl).app (.link (t := (x + l, y, m, h)) ⟨m2, rfl⟩ rfl e2)
  · exact .link (t := (x, y, l, h)) ⟨m1, rfl⟩ rfl rfl
  · exact .link (t := (x + l, y, m, h)) ⟨m2, e2⟩ rfl rfl
theorem fit_split1 [NSq d] {x y w h l m : Q d} (hl : 0 < l) (hm : 0 < m) (hw : 0 < w) (e : l + m = h) : Fit [((x, y, w, l) : Tl d), (x, y + l, w, m)] (x, y, w, h) := by
  have e2 : y + l + m = y + h := by rw [← e]; grind
  have m1 : ((x, y, w, l) : Tl d) ∈ [((x, y, w, l) : Tl d), (x, y + l, w, m)] := by simp
  have m2 : ((x, y + l, w, m) : Tl d) ∈ [((x, y, w, l) : Tl d), (x, y + l, w, m)] := by simp
  refine ⟨fun t ht => ?_, fun t ht => ?_, ?_, ?_, ?_, ?_⟩
  · simp only [List.mem_cons, List.not_mem_nil, or_false] at ht
    rcases ht with rfl | rfl
    · exact ⟨hw, hl⟩
    · exact ⟨hw, hm⟩
  · simp only [List.mem_cons, List.not_mem_nil, or_false] at ht
    rcases ht with rfl | rfl <;> refine ⟨?_, ?_, ?_, ?_⟩ <;> simp only [fx, fr, fy, ft] <;> grind
  · exact .link (t := (x, y, w, l)) ⟨m1, rfl⟩ rfl rfl
  · exact .link (t := (x, y + l, w, m)) ⟨m2, e2⟩ rfl rfl
  · exact (Ch.link (t := (x, y, w, l)) ⟨m1, rfl⟩ rfl rfl).app (.link (t := (x, y + l, w, m)) ⟨m2, rfl⟩ rfl e2)
  · exact (Ch.link (t := (x, y, w, l)) ⟨m1, rfl⟩ rfl rfl).app (.link (t := (x, y + l, w, m)) ⟨m2, rfl⟩ rfl e2)
/-- five round one another: a + c = w, b + e = h, the inner one i by j -/
theorem fit_wheel [NSq d] {x y w h a b c e i j : Q d} (ha : 0 < a) (hb : 0 < b) (hc : 0 < c) (he : 0 < e) (hi : 0 < i) (hj : 0 < j) (e1 : a + c = w) (e2 : b + e = h) (e3 : a + i = c) (e4 : b + j = e) :
    Fit [((x, y, c, b) : Tl d), (x + c, y, a, e), (x + a, y + e, c, b), (x, y + b, a, e), (x + a, y + b, i, j)] (x, y, w, h) := by
  have q1 : x + c + a = x + w := by rw [← e1]; grind
  have q2 : x + a + c = x + w := by rw [← e1]; grind
  have q3 : y + e + b = y + h := by rw [← e2]; grind
  have q4 : y + b + e = y + h := by rw [← e2]; grind
  have mm : ∀ t : Tl d, t ∈ [((x, y, c, b) : Tl d), (x + c, y, a, e), (x + a, y + e, c, b), (x, y + b, a, e), (x + a, y + b, i, j)] ↔ t = (x, y, c, b) ∨ t = (x + c, y, a, e) ∨ t = (x + a, y + e, c, b) ∨ t = (x, y + b, a, e) ∨ t = (x + a, y + b, i, j) := fun t => by simp
  have m1 := (mm (x, y, c, b)).mpr (.inl rfl)
  have m2 := (mm (x + c, y, a, e)).mpr (.inr (.inl rfl))
  have m3 := (mm (x + a, y + e, c, b)).mpr (.inr (.inr (.inl rfl)))
  have m4 := (mm (x, y + b, a, e)).mpr (.inr (.inr (.inr (.inl rfl))))
  generalize [((x, y, c, b) : Tl d), (x + c, y, a, e), (x + a, y + e, c, b), (x, y + b, a, e), (x + a, y + b, i, j)] = M at *
  refine ⟨fun t ht => ?_, fun t ht => ?_, ?_, ?_, ?_, ?_⟩
  · rcases (mm t).mp ht with rfl | rfl | rfl | rfl | rfl
    · exact ⟨hc, hb⟩
    · exact ⟨ha, he⟩
    · exact ⟨hc, hb⟩
    · exact ⟨ha, he⟩
    · exact ⟨hi, hj⟩
  · rcases (mm t).mp ht with rfl | rfl | rfl | rfl | rfl <;> refine ⟨?_, ?_, ?_, ?_⟩ <;> simp only [fx, fr, fy, ft] <;> grind
  · exact (Ch.link (t := (x, y, c, b)) ⟨m1, rfl⟩ rfl rfl).app (.link (t := (x + c, y, a, e)) ⟨m2, rfl⟩ rfl q1)
  · exact (Ch.link (t := (x, y + b, a, e)) ⟨m4, q4⟩ rfl rfl).app (.link (t := (x + a, y + e, c, b)) ⟨m3, q3⟩ rfl q2)
  · exact (Ch.link (t := (x, y, c, b)) ⟨m1, rfl⟩ rfl rfl).app (.link (t := (x, y + b, a, e)) ⟨m4, rfl⟩ rfl q4)
  · exact (Ch.link (t := (x + c, y, a, e)) ⟨m2, q1⟩ rfl rfl).app (.link (t := (x + a, y + e, c, b)) ⟨m3, q2⟩ rfl q3)
theorem Fit.cut [NSq d] {T T' : List (Tl d)} {s : Tl d} (h : Fit T s) (c : Cut1 T T') : Fit T' s := by
  cases c with
  | @split A B t side c r e hr =>
    subst e
    have ht := h.pos t (by simp)
    obtain ⟨a1, a2⟩ := left_pos hr ht.1
    obtain ⟨b1, b2⟩ := left_pos hr ht.2
    refine h.into ?_
    unfold splitT
    split
    · exact fit_split0 a1 a2 ht.2 (by grind)
    · exact fit_split1 b1 b2 ht.1 (by grind)
  | @wheel A B t c r e hr hc =>
    subst e
    have ht := h.pos t (by simp)
    obtain ⟨a1, a2⟩ := left_pos hr ht.1
    obtain ⟨b1, b2⟩ := left_pos hr ht.2
    refine h.into ?_
    unfold wheelT
    exact fit_wheel a1 b1 a2 b2 (mid_pos hr hc ht.1) (mid_pos hr hc ht.2) (by grind) (by grind) (by grind) (by grind)
theorem fit_cuts [NSq d] {s : Tl d} (hs : 0 < s.2.2.1 ∧ 0 < s.2.2.2) : ∀ {n : Nat} {T : List (Tl d)}, CutN [s] n T → Fit T s
  | _, _, .zero => Fit.one hs
  | _, _, .succ h c => (fit_cuts hs h).cut c
/-- x and y exchanged -/
def trT (t : Tl d) : Tl d := (t.2.1, t.1, t.2.2.2, t.2.2.1)
theorem Fit.turn [NSq d] {T : List (Tl d)} {s : Tl d} (h : Fit T s) : Fit (T.map trT) (trT s) := by
  have go : ∀ {lf rg lf' rg' : Tl d → Q d} {P P' : Tl d → Prop} {a b : Q d}, (∀ t, lf' (trT t) = lf t) → (∀ t, rg' (trT t) = rg t) → (∀ t, P t → P' (trT t)) → Ch lf rg P a b → Ch lf' rg' P' a b := by
    intro lf rg lf' rg' P P' a b h1 h2 h3 c
    induction c with
    | nil a => exact .nil a
    | @cons t b hp _ ih =>
      rw [← h1]
      refine .cons (h3 t hp) ?_
      rw [h2]
      exact ih
  have m : ∀ t, t ∈ T → trT t ∈ T.map trT := fun t ht => List.mem_map_of_mem ht
  refine ⟨fun t ht => ?_, fun t ht => ?_, ?_, ?_, ?_, ?_⟩
  · obtain ⟨u, hu, rfl⟩ := List.mem_map.mp ht
    exact (h.pos u hu).symm
  · obtain ⟨u, hu, rfl⟩ := List.mem_map.mp ht
    obtain ⟨a1, a2, a3, a4⟩ := h.ins u hu
    exact ⟨a3, a4, a1, a2⟩
  · exact go (fun _ => rfl) (fun _ => rfl) (fun t ht => ⟨m t ht.1, ht.2⟩) h.le
  · exact go (fun _ => rfl) (fun _ => rfl) (fun t ht => ⟨m t ht.1, ht.2⟩) h.ri
  · exact go (fun _ => rfl) (fun _ => rfl) (fun t ht => ⟨m t ht.1, ht.2⟩) h.lo
  · exact go (fun _ => rfl) (fun _ => rfl) (fun t ht => ⟨m t ht.1, ht.2⟩) h.hi
/-- the lowest and the highest line -/
theorem mem_edges {T : List (Tl d)} {e : Ed d} : e ∈ edges T ↔ ∃ t ∈ T, e = (fx t, fy t, fr t) ∨ e = (fx t, ft t, fr t) := by
  unfold edges
  rw [List.mem_flatMap]
  constructor
  · rintro ⟨t, ht, he⟩
    unfold edgesT at he
    simp only [List.mem_cons, List.not_mem_nil, or_false] at he
    exact ⟨t, ht, he⟩
  · rintro ⟨t, ht, he⟩
    exact ⟨t, ht, by unfold edgesT; simp only [List.mem_cons, List.not_mem_nil, or_false]; exact he⟩
theorem fit_line [NSq d] {T : List (Tl d)} {s : Tl d} (h : Fit T s) (hs : 0 < s.2.2.1) {y : Q d} {P : Tl d → Prop} (hc : Ch fx fr P (fx s) (fr s)) (hP : ∀ t, P t → ((fx t, y, fr t) : Ed d) ∈ edges T) : Comp (edges T) (y, fx s, fr s) := by
  have hne : fx s ≠ fr s := by unfold fx fr; grind
  have lt : fx s < fr s := by unfold fx fr; grind
  have ins : ∀ e ∈ edges T, fx s ≤ e.1 ∧ e.2.2 ≤ fr s := fun e he => by
    obtain ⟨t, ht, he⟩ := mem_edges.mp he
    obtain ⟨a1, a2, a3, a4⟩ := h.ins t ht
    rcases he with rfl | rfl
    · exact ⟨a1, a2⟩
    · exact ⟨a1, a2⟩
  refine ⟨?_, ?_, lt, fun p h1 h2 => ?_, fun p h1 h2 => ?_, fun e he hy k => ?_, fun e he hy k => ?_⟩
  · obtain ⟨t, ht, e⟩ := hc.first hne
    exact ⟨_, hP t ht, rfl, e⟩
  · obtain ⟨t, ht, e⟩ := hc.final hne
    exact ⟨_, hP t ht, rfl, e⟩
  · obtain ⟨t, ht, e1, e2⟩ := hc.c1 p h1 (Std.le_of_lt h2)
    exact ⟨_, hP t ht, rfl, e1, e2⟩
  · obtain ⟨t, ht, e1, e2⟩ := hc.c2 p (Std.le_of_lt h1) h2
    exact ⟨_, hP t ht, rfl, e1, e2⟩
  · have := (ins e he).1
    have k1 : e.1 < fx s := k.1
    grind
  · have := (ins e he).2
    have k2 : fr s < e.2.2 := k.2
    grind
theorem fit_ends [NSq d] {T : List (Tl d)} {s : Tl d} (h : Fit T s) (hs : 0 < s.2.2.1 ∧ 0 < s.2.2.2) {F : List (Ln d)} (hF : IsLines (edges T) F) : ∃ M, F = (fy s, fx s, fr s) :: M ++ [(ft s, fx s, fr s)] := by
  have c1 := fit_line h hs.1 (y := fy s) h.lo fun t ht => mem_edges.mpr ⟨t, ht.1, .inl (by rw [ht.2])⟩
  have c2 := fit_line h hs.1 (y := ft s) h.hi fun t ht => mem_edges.mpr ⟨t, ht.1, .inr (by rw [ht.2])⟩
  have hlt := fun e (he : e ∈ edges T) => (show e.1 < e.2.2 by
    obtain ⟨t, ht, he⟩ := mem_edges.mp he
    have := (h.pos t ht).1
    rcases he with rfl | rfl
    · show fx t < fr t; unfold fx fr; grind
    · show fx t < fr t; unfold fx fr; grind)
  have inF : ∀ u : Ln d, Comp (edges T) u → u ∈ F := fun u cu => by
    obtain ⟨e, he, e1, e2⟩ := cu.left
    obtain ⟨v, hv, k1, k2, k3⟩ := hF.al e he
    have hle := hlt e he
    have eu : e.2.2 ≤ u.2.2 := by
      apply Classical.byContradiction
      intro k
      have := cu.lt
      exact cu.mr e he e1 ⟨by grind, by grind⟩
    have := comp_eq cu (hF.cp v hv) (e1.symm.trans k1.symm) hle (by grind) eu k2 k3
    rw [this]; exact hv
  have i1 := inF _ c1
  have i2 := inF _ c2
  have hyy : fy s < ft s := by unfold fy ft; grind
  have lowest : ∀ u ∈ F, ¬ before u (fy s, fx s, fr s) := fun u hu k => by
    obtain ⟨e, he, e1, e2⟩ := (hF.cp u hu).left
    obtain ⟨t, ht, he⟩ := mem_edges.mp he
    obtain ⟨a1, a2, a3, a4⟩ := h.ins t ht
    have p := h.pos t ht
    have hy : fy s ≤ u.1 := by
      rw [← e1]
      rcases he with rfl | rfl
      · exact a3
      · show fy s ≤ ft t; unfold fy ft at *; grind
    have hx : fx s ≤ u.2.1 := by
      rw [← e2]
      rcases he with rfl | rfl <;> exact a1
    have := (hF.cp u hu).lt
    rcases k with k | ⟨k, k2⟩
    · have k : u.1 < fy s := k
      grind
    · have k2 : u.2.2 < fx s := k2
      grind
  have highest : ∀ u ∈ F, ¬ before (ft s, fx s, fr s) u := fun u hu k => by
    obtain ⟨e, he, e1, e2⟩ := (hF.cp u hu).right
    obtain ⟨t, ht, he⟩ := mem_edges.mp he
    obtain ⟨a1, a2, a3, a4⟩ := h.ins t ht
    have p := h.pos t ht
    have hy : u.1 ≤ ft s := by
      rw [← e1]
      rcases he with rfl | rfl
      · show fy t ≤ ft s; unfold fy ft at *; grind
      · exact a4
    have hx : u.2.2 ≤ fr s := by
      rw [← e2]
      rcases he with rfl | rfl <;> exact a2
    have := (hF.cp u hu).lt
    rcases k with k | ⟨k, k2⟩
    · have k : ft s < u.1 := k
      grind
    · have k2 : fr s < u.2.1 := k2
      grind
  obtain ⟨A, B, hAB⟩ := List.append_of_mem i1
  have hA : A = [] := by
    apply List.eq_nil_iff_forall_not_mem.mpr
    intro u hu
    have hp := hF.pw
    rw [hAB, List.pairwise_append] at hp
    exact lowest u (by rw [hAB]; simp [hu]) (hp.2.2 u hu _ (by simp))
  subst hA
  rw [List.nil_append] at hAB
  rw [hAB] at i2
  have hne : ((ft s, fx s, fr s) : Ln d) ≠ (fy s, fx s, fr s) := fun k => by
    have := congrArg Prod.fst k
    have : ft s = fy s := this
    grind
  have i3 : ((ft s, fx s, fr s) : Ln d) ∈ B := (List.mem_cons.mp i2).resolve_left hne
  obtain ⟨C, D, hCD⟩ := List.append_of_mem i3
  have hD : D = [] := by
    apply List.eq_nil_iff_forall_not_mem.mpr
    intro u hu
    have hp := hF.pw
    rw [hAB, hCD, List.pairwise_cons, List.pairwise_append, List.pairwise_cons] at hp
    exact highest u (by rw [hAB, hCD]; simp [hu]) (hp.2.2.1.1 u hu)
  exact ⟨C, by rw [hAB, hCD, hD]; rfl⟩
end K83

set_option Elab.async false
set_option linter.all false
set_option maxRecDepth 100000
set_option maxHeartbeats 4000000
namespace K83
open PySem L2 PV Qu LL
open Classical
variable {d : Nat}
/-! ### what lies above and below a tile -/
structure Nb [NSq d] (T : List (Tl d)) (s : Tl d) : Prop where
  up : ∀ t ∈ T, ft t ≠ ft s → ∀ p, fx t ≤ p → p < fr t → ∃ u ∈ T, fy u = ft t ∧ fx u ≤ p ∧ p < fr u
  dn : ∀ t ∈ T, fy t ≠ fy s → ∀ p, fx t ≤ p → p < fr t → ∃ u ∈ T, ft u = fy t ∧ fx u ≤ p ∧ p < fr u
theorem Nb.one [NSq d] (s : Tl d) : Nb [s] s := ⟨fun t ht h => absurd (by rw [List.mem_singleton.mp ht]) h, fun t ht h => absurd (by rw [List.mem_singleton.mp ht]) h⟩
theorem Nb.perm [NSq d] {T U : List (Tl d)} {s : Tl d} (h : Nb T s) (p : U.Perm T) : Nb U s := ⟨fun t ht h1 q h2 h3 => by
  obtain ⟨u, hu, k⟩ := h.up t (p.mem_iff.mp ht) h1 q h2 h3
  exact ⟨u, p.mem_iff.mpr hu, k⟩, fun t ht h1 q h2 h3 => by
  obtain ⟨u, hu, k⟩ := h.dn t (p.mem_iff.mp ht) h1 q h2 h3
  exact ⟨u, p.mem_iff.mpr hu, k⟩⟩
theorem Nb.into [NSq d] {A B M : List (Tl d)} {t s : Tl d} (h : Nb (A ++ t :: B) s) (hp : 0 < t.2.2.2) (g : Fit M t) (k : Nb M t) : Nb (A ++ M ++ B) s := by
  have mem : ∀ u, u ∈ A ++ M ++ B ↔ u ∈ A ∨ u ∈ M ∨ u ∈ B := fun u => by simp [or_assoc]
  have old : ∀ u, u ∈ A ++ t :: B → u = t ∨ u ∈ A ++ M ++ B := fun u hu => by
    rcases List.mem_append.mp hu with hu | hu
    · exact .inr ((mem u).mpr (.inl hu))
    · rcases List.mem_cons.mp hu with hu | hu
      · exact .inl hu
      · exact .inr ((mem u).mpr (.inr (.inr hu)))
  have lt : fy t < ft t := by unfold fy ft; grind
  have goU : ∀ u ∈ A ++ t :: B, ft u ≠ ft s → ∀ p, fx u ≤ p → p < fr u → ∃ v ∈ A ++ M ++ B, fy v = ft u ∧ fx v ≤ p ∧ p < fr v := fun u hu hs p h1 h2 => by
    obtain ⟨v, hv, e1, e2, e3⟩ := h.up u hu hs p h1 h2
    rcases old v hv with rfl | hv
    · obtain ⟨w, hw, c1, c2⟩ := g.lo.c2 p e2 e3
      exact ⟨w, (mem w).mpr (.inr (.inl hw.1)), hw.2.trans e1, c1, c2⟩
    · exact ⟨v, hv, e1, e2, e3⟩
  have goD : ∀ u ∈ A ++ t :: B, fy u ≠ fy s → ∀ p, fx u ≤ p → p < fr u → ∃ v ∈ A ++ M ++ B, ft v = fy u ∧ fx v ≤ p ∧ p < fr v := fun u hu hs p h1 h2 => by
    obtain ⟨v, hv, e1, e2, e3⟩ := h.dn u hu hs p h1 h2
    rcases old v hv with rfl | hv
    · obtain ⟨w, hw, c1, c2⟩ := g.hi.c2 p e2 e3
      exact ⟨w, (mem w).mpr (.inr (.inl hw.1)), hw.2.trans e1, c1, c2⟩
    · exact ⟨v, hv, e1, e2, e3⟩
  constructor
  · intro u hu hs p h1 h2
    rcases (mem u).mp hu with hu | hu | hu
    · exact goU u (by simp [hu]) hs p h1 h2
    · by_cases c : ft u = ft t
      · obtain ⟨i1, i2, -, -⟩ := g.ins u hu
        obtain ⟨v, hv, e⟩ := goU t (by simp) (fun e => hs (c.trans e)) p (by grind) (by grind)
        exact ⟨v, hv, e.1.trans c.symm, e.2⟩
      · obtain ⟨v, hv, e⟩ := k.up u hu c p h1 h2
        exact ⟨v, (mem v).mpr (.inr (.inl hv)), e⟩
    · exact goU u (by simp [hu]) hs p h1 h2
  · intro u hu hs p h1 h2
    rcases (mem u).mp hu with hu | hu | hu
    · exact goD u (by simp [hu]) hs p h1 h2
    · by_cases c : fy u = fy t
      · obtain ⟨i1, i2, -, -⟩ := g.ins u hu
        obtain ⟨v, hv, e⟩ := goD t (by simp) (fun e => hs (c.trans e)) p (by grind) (by grind)
        exact ⟨v, hv, e.1.trans c.symm, e.2⟩
      · obtain ⟨v, hv, e⟩ := k.dn u hu c p h1 h2
        exact ⟨v, (mem v).mpr (.inr (.inl hv)), e⟩
    · exact goD u (by simp [hu]) hs p h1 h2
theorem nb_split0 [NSq d] {x y w h l m : Q d} : Nb [((x, y, l, h) : Tl d), (x + l, y, m, h)] (x, y, w, h) := by
  constructor
  · intro t ht hs
    simp only [List.mem_cons, List.not_mem_nil, or_false] at ht
    rcases ht with rfl | rfl <;> exact absurd rfl hs
  · intro t ht hs
    simp only [List.mem_cons, List.not_mem_nil, or_false] at ht
    rcases ht with rfl | rfl <;> exact absurd rfl hs
theorem nb_split1 [NSq d] {x y w h l m : Q d} (e : l + m = h) : Nb [((x, y, w, l) : Tl d), (x, y + l, w, m)] (x, y, w, h) := by
  have e2 : y + l + m = y + h := by rw [← e]; grind
  constructor
  · intro t ht hs p h1 h2
    simp only [List.mem_cons, List.not_mem_nil, or_false] at ht
    rcases ht with rfl | rfl
    · exact ⟨(x, y + l, w, m), by simp, rfl, h1, h2⟩
    · exact absurd e2 hs
  · intro t ht hs p h1 h2
    simp only [List.mem_cons, List.not_mem_nil, or_false] at ht
    rcases ht with rfl | rfl
    · exact absurd rfl hs
    · exact ⟨(x, y, w, l), by simp, rfl, h1, h2⟩
theorem nb_wheel [NSq d] {x y w h a b c e i j : Q d} (ha : 0 < a) (hb : 0 < b) (hc : 0 < c) (he : 0 < e) (hi : 0 < i) (hj : 0 < j) (e1 : a + c = w) (e2 : b + e = h) (e3 : a + i = c) (e4 : b + j = e) :
    Nb [((x, y, c, b) : Tl d), (x + c, y, a, e), (x + a, y + e, c, b), (x, y + b, a, e), (x + a, y + b, i, j)] (x, y, w, h) := by
  have mm : ∀ t : Tl d, t ∈ [((x, y, c, b) : Tl d), (x + c, y, a, e), (x + a, y + e, c, b), (x, y + b, a, e), (x + a, y + b, i, j)] ↔ t = (x, y, c, b) ∨ t = (x + c, y, a, e) ∨ t = (x + a, y + e, c, b) ∨ t = (x, y + b, a, e) ∨ t = (x + a, y + b, i, j) := fun t => by simp
  have m1 := (mm (x, y, c, b)).mpr (.inl rfl)
  have m2 := (mm (x + c, y, a, e)).mpr (.inr (.inl rfl))
  have m3 := (mm (x + a, y + e, c, b)).mpr (.inr (.inr (.inl rfl)))
  have m4 := (mm (x, y + b, a, e)).mpr (.inr (.inr (.inr (.inl rfl))))
  have m5 := (mm (x + a, y + b, i, j)).mpr (.inr (.inr (.inr (.inr rfl))))
  generalize [((x, y, c, b) : Tl d), (x + c, y, a, e), (x + a, y + e, c, b), (x, y + b, a, e), (x + a, y + b, i, j)] = M at *
  constructor
  · intro t ht hs p h1 h2
    rcases (mm t).mp ht with rfl | rfl | rfl | rfl | rfl <;> simp only [fx, fr, fy, ft] at hs h1 h2 ⊢
    · by_cases k : p < x + a
      · exact ⟨_, m4, rfl, h1, k⟩
      · exact ⟨_, m5, rfl, by show x + a ≤ p; grind, by show p < x + a + i; grind⟩
    · exact ⟨_, m3, rfl, by show x + a ≤ p; grind, by show p < x + a + c; grind⟩
    · exact absurd (by grind) hs
    · exact absurd (by grind) hs
    · exact ⟨_, m3, by show y + e = y + b + j; grind, by show x + a ≤ p; grind, by show p < x + a + c; grind⟩
  · intro t ht hs p h1 h2
    rcases (mm t).mp ht with rfl | rfl | rfl | rfl | rfl <;> simp only [fx, fr, fy, ft] at hs h1 h2 ⊢
    · exact absurd trivial (by simp at hs)
    · exact absurd trivial (by simp at hs)
    · by_cases k : p < x + c
      · exact ⟨_, m5, by show y + b + j = y + e; grind, by show x + a ≤ p; grind, by show p < x + a + i; grind⟩
      · exact ⟨_, m2, rfl, by show x + c ≤ p; grind, by show p < x + c + a; grind⟩
    · exact ⟨_, m1, rfl, by show x ≤ p; grind, by show p < x + c; grind⟩
    · exact ⟨_, m1, rfl, by show x ≤ p; grind, by show p < x + c; grind⟩
theorem Nb.cut [NSq d] {T T' : List (Tl d)} {s : Tl d} (hf : Fit T s) (h : Nb T s) (c : Cut1 T T') : Nb T' s := by
  cases c with
  | @split A B t side c r e hr =>
    subst e
    have ht := hf.pos t (by simp)
    obtain ⟨a1, a2⟩ := left_pos hr ht.1
    obtain ⟨b1, b2⟩ := left_pos hr ht.2
    unfold splitT
    split
    · exact h.into ht.2 (fit_split0 a1 a2 ht.2 (by grind)) nb_split0
    · exact h.into ht.2 (fit_split1 b1 b2 ht.1 (by grind)) (nb_split1 (by grind))
  | @wheel A B t c r e hr hc =>
    subst e
    have ht := hf.pos t (by simp)
    obtain ⟨a1, a2⟩ := left_pos hr ht.1
    obtain ⟨b1, b2⟩ := left_pos hr ht.2
    unfold wheelT
    exact h.into ht.2 (fit_wheel a1 b1 a2 b2 (mid_pos hr hc ht.1) (mid_pos hr hc ht.2) (by grind) (by grind) (by grind) (by grind)) (nb_wheel a1 b1 a2 b2 (mid_pos hr hc ht.1) (mid_pos hr hc ht.2) (by grind) (by grind) (by grind) (by grind))
theorem nb_cuts [NSq d] {s : Tl d} (hs : 0 < s.2.2.1 ∧ 0 < s.2.2.2) : ∀ {n : Nat} {T : List (Tl d)}, CutN [s] n T → Nb T s
  | _, _, .zero => Nb.one s
  | _, _, .succ h c => Nb.cut (fit_cuts hs h) (nb_cuts hs h) c
end K83

set_option Elab.async false
set_option linter.all false
set_option maxRecDepth 100000
set_option maxHeartbeats 4000000
namespace K83
open PySem L2 PV Qu LL
open Classical
variable {d : Nat}
/-- the line on which a point lies -/
def on [NSq d] (F : List (Ln d)) (x y : Q d) (i : Nat) : Prop := ∃ u, F[i]? = some u ∧ u.1 = y ∧ u.2.1 ≤ x ∧ x < u.2.2
theorem on_dec [NSq d] {F : List (Ln d)} {x y : Q d} {i : Nat} {u : Ln d} (h : F[i]? = some u) : on F x y i ↔ u.1 = y ∧ u.2.1 ≤ x ∧ x < u.2.2 := by
  unfold on
  rw [h]
  constructor
  · rintro ⟨v, e, k⟩
    injection e with e
    rw [e]; exact k
  · intro k
    exact ⟨u, rfl, k⟩
def SzL (k : Nat) (F : List (Ln d)) : Prop := ∀ u ∈ F, Sz k u.1 ∧ Sz k u.2.1 ∧ Sz k u.2.2
theorem forGo_cut {g : G} {f : Sl → Option Out} {I : Sl → Prop} : ∀ (l1 l2 : List PyData) (ρ : Sl), (∀ x ∈ l1, ∀ ρ, I ρ → ∃ ρ1 ρ2, asg g x ρ = some ρ1 ∧ f ρ1 = some (.nx ρ2) ∧ I ρ2) → I ρ → ∃ ρ', I ρ' ∧ forGo g f (l1 ++ l2) ρ = forGo g f l2 ρ'
  | [], l2, ρ, _, hI => ⟨ρ, hI, rfl⟩
  | x :: l1, l2, ρ, h, hI => by
    obtain ⟨ρ1, ρ2, e1, e2, e3⟩ := h x List.mem_cons_self ρ hI
    obtain ⟨ρ', r1, r2⟩ := forGo_cut l1 l2 ρ2 (fun y hy => h y (List.mem_cons_of_mem _ hy)) e3
    refine ⟨ρ', r1, ?_⟩
    rw [List.cons_append, fr_nx e1 e2]
    exact r2
theorem range_split {i n : Nat} (h : i < n) : List.range n = List.range i ++ i :: (List.range n).drop (i + 1) := by
  have h1 := take_drop_at (l := List.range n) (k := i) (by rw [List.length_range]; exact h)
  rw [List.getElem_range] at h1
  have h2 : (List.range n).take i = List.range i := by rw [List.take_range, Nat.min_eq_left (Nat.le_of_lt h)]
  rw [h2] at h1
  exact h1
theorem line_at_is [NSq d] {F : List (Ln d)} {x y : Q d} {i k : Nat} (hd : d < 64) (hF : SzL k F) (hx : Sz k x) (hk : k ≤ 1900) (hn : F.length ≤ 10000) (h : on F x y i) (hu : ∀ j, on F x y j → j = i) : f_line_at [.int (d : Int), .list (F.map encLn), L x, L y] = some (false, .int (i : Int)) := by
  have step : ∀ j, j < F.length → evSs FUEL ib_line_at_1 [sI (d : Int), some (false, .list (F.map encLn)), sQ x, sQ y, sI (j : Int)] = if on F x y j then some (.rt (false, .int (j : Int))) else some (.nx [sI (d : Int), some (false, .list (F.map encLn)), sQ x, sQ y, sI (j : Int)]) := fun j hj => by
    have hx1 := ix_mapA (en := encLn (d := d)) hj
    have hm : F[j] ∈ F := List.getElem_mem hj
    obtain ⟨z1, z2, z3⟩ := hF _ hm
    have q1 := compare_is hd z2 hx hk
    have q2 := compare_is hd hx z3 hk
    have m1 := sgn_p1 F[j].2.1 x
    have m2 := sgn_m1 x F[j].2.2
    have hon := on_dec (F := F) (x := x) (y := y) (List.getElem?_eq_getElem hj)
    generalize F[j] = u at *
    by_cases c1 : u.1 = y
    · by_cases c2 : x < u.2.1
      · rw [decide_eq_true c2] at m1
        rw [if_neg (fun k => by have := (hon.mp k).2.1; grind)]
        unfold ib_line_at_1
        simp only [q_wipeR_1, q_wipeR_2, q_asg_1, q_asg_2, q_asg_3, q_asg_4, q_asg_5, q_asg_6, q_asg_7, q_asgR_1, q_ownedArg_1, q_ownedArgs_1, q_ownedArgs_2, q_itemsOf_1, q_itemsOf_2, q_evE_1, q_evE_2, q_evE_3, q_evE_4, q_evE_5, q_evE_6, q_evE_7, q_evE_8, q_evE_9, q_evE_10, q_evE_11, q_evE_12, q_evE_13, q_evE_14, q_evE_15, q_evE_16, q_evE_17, q_evE_18, q_evE_19, q_evE_20, q_evEs_1, q_evEs_2, q_evP_1, q_evP_2, q_evC_1, q_evC_2, q_evI_1, q_evI_2, q_evRet_1, q_evS_1, q_evS_2, q_evS_3, q_evS_4, q_evS_5, q_evS_6, q_evS_7, q_evS_8, q_evS_9, q_evS_10, q_evS_11, q_evS_12, q_evS_13, q_evS_14, q_evS_15, q_evS_16, q_evSs_1, q_evSs_2, q_oa_0, q_rt_0, q_oa_1, q_rt_1, q_oa_2, q_rt_2, q_oa_3, q_rt_3, q_oa_4, q_rt_4, q_oa_5, q_rt_5, q_oa_6, q_rt_6, q_oa_7, q_rt_7, q_oa_8, q_rt_8, q_oa_9, q_rt_9, q_oa_10, q_rt_10, q_oa_11, q_rt_11, q_oa_12, q_rt_12, q_oa_13, q_rt_13, q_oa_14, q_rt_14, q_oa_15, q_rt_15, q_oa_16, q_rt_16, q_oa_17, q_rt_17, q_oa_18, q_rt_18, q_ar_0, q_ar_1, q_ar_2, asI_i, q_ret, q_bind, q_bindn, q_map, q_mapn, q_evT, q_own, startR, List.getElem?_cons_succ, List.getElem?_cons_zero, List.set_cons_succ, List.set_cons_zero, List.map_cons, List.map_nil, List.replicate, List.length_cons, List.length_nil, List.append_eq, List.nil_append, List.cons_append, Bool.and_true, Bool.true_and, Bool.and_false, Bool.false_and, Bool.not_true, Bool.not_false, if_true, if_false, reduceCtorEq, Nat.reduceSub, Nat.reduceAdd, Nat.reduceLeDiff, Bool.false_eq_true, Bool.or_false, Bool.false_or, ite_true, ite_false, lenOk_0, lenOk_1, lenOk_2, lenOk_3, lenOk_4, lenOk_5, lenOk_6, lenOk_7, lenOk_8, i_add, i_sub, i_neg, i_asI, N_int, i_inti, i_intb, decide_true, decide_false, hx1, ixN0, ixN1, L_eq, decide_eq_true c1, q1, i_ne, m1]
      · rw [decide_eq_false c2] at m1
        by_cases c3 : x < u.2.2
        · rw [decide_eq_true c3] at m2
          rw [if_pos (hon.mpr ⟨c1, by grind, c3⟩)]
          unfold ib_line_at_1
          simp only [q_wipeR_1, q_wipeR_2, q_asg_1, q_asg_2, q_asg_3, q_asg_4, q_asg_5, q_asg_6, q_asg_7, q_asgR_1, q_ownedArg_1, q_ownedArgs_1, q_ownedArgs_2, q_itemsOf_1, q_itemsOf_2, q_evE_1, q_evE_2, q_evE_3, q_evE_4, q_evE_5, q_evE_6, q_evE_7, q_evE_8, q_evE_9, q_evE_10, q_evE_11, q_evE_12, q_evE_13, q_evE_14, q_evE_15, q_evE_16, q_evE_17, q_evE_18, q_evE_19, q_evE_20, q_evEs_1, q_evEs_2, q_evP_1, q_evP_2, q_evC_1, q_evC_2, q_evI_1, q_evI_2, q_evRet_1, q_evS_1, q_evS_2, q_evS_3, q_evS_4, q_evS_5, q_evS_6, q_evS_7, q_evS_8, q_evS_9, q_evS_10, q_evS_11, q_evS_12, q_evS_13, q_evS_14, q_evS_15, q_evS_16, q_evSs_1, q_evSs_2, q_oa_0, q_rt_0, q_oa_1, q_rt_1, q_oa_2, q_rt_2, q_oa_3, q_rt_3, q_oa_4, q_rt_4, q_oa_5, q_rt_5, q_oa_6, q_rt_6, q_oa_7, q_rt_7, q_oa_8, q_rt_8, q_oa_9, q_rt_9, q_oa_10, q_rt_10, q_oa_11, q_rt_11, q_oa_12, q_rt_12, q_oa_13, q_rt_13, q_oa_14, q_rt_14, q_oa_15, q_rt_15, q_oa_16, q_rt_16, q_oa_17, q_rt_17, q_oa_18, q_rt_18, q_ar_0, q_ar_1, q_ar_2, asI_i, q_ret, q_bind, q_bindn, q_map, q_mapn, q_evT, q_own, startR, List.getElem?_cons_succ, List.getElem?_cons_zero, List.set_cons_succ, List.set_cons_zero, List.map_cons, List.map_nil, List.replicate, List.length_cons, List.length_nil, List.append_eq, List.nil_append, List.cons_append, Bool.and_true, Bool.true_and, Bool.and_false, Bool.false_and, Bool.not_true, Bool.not_false, if_true, if_false, reduceCtorEq, Nat.reduceSub, Nat.reduceAdd, Nat.reduceLeDiff, Bool.false_eq_true, Bool.or_false, Bool.false_or, ite_true, ite_false, lenOk_0, lenOk_1, lenOk_2, lenOk_3, lenOk_4, lenOk_5, lenOk_6, lenOk_7, lenOk_8, i_add, i_sub, i_neg, i_asI, N_int, i_inti, i_intb, decide_true, decide_false, hx1, ixN0, ixN1, ixN2, L_eq, decide_eq_true c1, q1, q2, i_ne, i_eq, i_neg, m1, m2]
        · rw [decide_eq_false c3] at m2
          rw [if_neg (fun k => c3 (hon.mp k).2.2)]
          unfold ib_line_at_1
          simp only [q_wipeR_1, q_wipeR_2, q_asg_1, q_asg_2, q_asg_3, q_asg_4, q_asg_5, q_asg_6, q_asg_7, q_asgR_1, q_ownedArg_1, q_ownedArgs_1, q_ownedArgs_2, q_itemsOf_1, q_itemsOf_2, q_evE_1, q_evE_2, q_evE_3, q_evE_4, q_evE_5, q_evE_6, q_evE_7, q_evE_8, q_evE_9, q_evE_10, q_evE_11, q_evE_12, q_evE_13, q_evE_14, q_evE_15, q_evE_16, q_evE_17, q_evE_18, q_evE_19, q_evE_20, q_evEs_1, q_evEs_2, q_evP_1, q_evP_2, q_evC_1, q_evC_2, q_evI_1, q_evI_2, q_evRet_1, q_evS_1, q_evS_2, q_evS_3, q_evS_4, q_evS_5, q_evS_6, q_evS_7, q_evS_8, q_evS_9, q_evS_10, q_evS_11, q_evS_12, q_evS_13, q_evS_14, q_evS_15, q_evS_16, q_evSs_1, q_evSs_2, q_oa_0, q_rt_0, q_oa_1, q_rt_1, q_oa_2, q_rt_2, q_oa_3, q_rt_3, q_oa_4, q_rt_4, q_oa_5, q_rt_5, q_oa_6, q_rt_6, q_oa_7, q_rt_7, q_oa_8, q_rt_8, q_oa_9, q_rt_9, q_oa_10, q_rt_10, q_oa_11, q_rt_11, q_oa_12, q_rt_12, q_oa_13, q_rt_13, q_oa_14, q_rt_14, q_oa_15, q_rt_15, q_oa_16, q_rt_16, q_oa_17, q_rt_17, q_oa_18, q_rt_18, q_ar_0, q_ar_1, q_ar_2, asI_i, q_ret, q_bind, q_bindn, q_map, q_mapn, q_evT, q_own, startR, List.getElem?_cons_succ, List.getElem?_cons_zero, List.set_cons_succ, List.set_cons_zero, List.map_cons, List.map_nil, List.replicate, List.length_cons, List.length_nil, List.append_eq, List.nil_append, List.cons_append, Bool.and_true, Bool.true_and, Bool.and_false, Bool.false_and, Bool.not_true, Bool.not_false, if_true, if_false, reduceCtorEq, Nat.reduceSub, Nat.reduceAdd, Nat.reduceLeDiff, Bool.false_eq_true, Bool.or_false, Bool.false_or, ite_true, ite_false, lenOk_0, lenOk_1, lenOk_2, lenOk_3, lenOk_4, lenOk_5, lenOk_6, lenOk_7, lenOk_8, i_add, i_sub, i_neg, i_asI, N_int, i_inti, i_intb, decide_true, decide_false, hx1, ixN0, ixN1, ixN2, L_eq, decide_eq_true c1, q1, q2, i_ne, i_eq, i_neg, m1, m2]
    · rw [if_neg (fun k => c1 (hon.mp k).1)]
      unfold ib_line_at_1
      simp only [q_wipeR_1, q_wipeR_2, q_asg_1, q_asg_2, q_asg_3, q_asg_4, q_asg_5, q_asg_6, q_asg_7, q_asgR_1, q_ownedArg_1, q_ownedArgs_1, q_ownedArgs_2, q_itemsOf_1, q_itemsOf_2, q_evE_1, q_evE_2, q_evE_3, q_evE_4, q_evE_5, q_evE_6, q_evE_7, q_evE_8, q_evE_9, q_evE_10, q_evE_11, q_evE_12, q_evE_13, q_evE_14, q_evE_15, q_evE_16, q_evE_17, q_evE_18, q_evE_19, q_evE_20, q_evEs_1, q_evEs_2, q_evP_1, q_evP_2, q_evC_1, q_evC_2, q_evI_1, q_evI_2, q_evRet_1, q_evS_1, q_evS_2, q_evS_3, q_evS_4, q_evS_5, q_evS_6, q_evS_7, q_evS_8, q_evS_9, q_evS_10, q_evS_11, q_evS_12, q_evS_13, q_evS_14, q_evS_15, q_evS_16, q_evSs_1, q_evSs_2, q_oa_0, q_rt_0, q_oa_1, q_rt_1, q_oa_2, q_rt_2, q_oa_3, q_rt_3, q_oa_4, q_rt_4, q_oa_5, q_rt_5, q_oa_6, q_rt_6, q_oa_7, q_rt_7, q_oa_8, q_rt_8, q_oa_9, q_rt_9, q_oa_10, q_rt_10, q_oa_11, q_rt_11, q_oa_12, q_rt_12, q_oa_13, q_rt_13, q_oa_14, q_rt_14, q_oa_15, q_rt_15, q_oa_16, q_rt_16, q_oa_17, q_rt_17, q_oa_18, q_rt_18, q_ar_0, q_ar_1, q_ar_2, asI_i, q_ret, q_bind, q_bindn, q_map, q_mapn, q_evT, q_own, startR, List.getElem?_cons_succ, List.getElem?_cons_zero, List.set_cons_succ, List.set_cons_zero, List.map_cons, List.map_nil, List.replicate, List.length_cons, List.length_nil, List.append_eq, List.nil_append, List.cons_append, Bool.and_true, Bool.true_and, Bool.and_false, Bool.false_and, Bool.not_true, Bool.not_false, if_true, if_false, reduceCtorEq, Nat.reduceSub, Nat.reduceAdd, Nat.reduceLeDiff, Bool.false_eq_true, Bool.or_false, Bool.false_or, ite_true, ite_false, lenOk_0, lenOk_1, lenOk_2, lenOk_3, lenOk_4, lenOk_5, lenOk_6, lenOk_7, lenOk_8, i_add, i_sub, i_neg, i_asI, N_int, i_inti, i_intb, decide_true, decide_false, hx1, ixN0, L_eq, decide_eq_false c1]
  have hi : i < F.length := by
    obtain ⟨u, e, -⟩ := h
    exact (List.getElem?_eq_some_iff.mp e).1
  obtain ⟨ρ', ⟨s4, rfl⟩, e⟩ := forGo_cut (g := .nm 4) (f := blk FUEL ib_line_at_1) (I := fun ρ => ∃ s4, ρ = [sI (d : Int), some (false, .list (F.map encLn)), sQ x, sQ y, s4]) ((List.range i).map N) ((i :: (List.range F.length).drop (i + 1)).map N) [sI (d : Int), some (false, .list (F.map encLn)), sQ x, sQ y, none] (by
    rintro z hz ρ ⟨s4, rfl⟩
    obtain ⟨j, hj, rfl⟩ := List.mem_map.mp hz
    rw [List.mem_range] at hj
    refine ⟨_, _, rfl, ?_, sI (j : Int), rfl⟩
    show evSs FUEL ib_line_at_1 [sI (d : Int), some (false, .list (F.map encLn)), sQ x, sQ y, sI (j : Int)] = _
    rw [step j (by omega), if_neg (fun k => by have := hu j k; omega)]) ⟨none, rfl⟩
  rw [← List.map_append, ← range_split hi] at e
  have s1 : blk FUEL ib_line_at_1 [sI (d : Int), some (false, .list (F.map encLn)), sQ x, sQ y, sI (i : Int)] = some (.rt (false, .int (i : Int))) := by
    show evSs FUEL ib_line_at_1 _ = _
    rw [step i hi, if_pos h]
  have e2 : forGo (.nm 4) (blk FUEL ib_line_at_1) ((i :: (List.range F.length).drop (i + 1)).map N) [sI (d : Int), some (false, .list (F.map encLn)), sQ x, sQ y, s4] = some (.rt (false, .int (i : Int))) := by
    rw [List.map_cons]
    exact fr_rt rfl s1
  rw [e2] at e
  have hlen : evBI .len [.list (F.map encLn)] = some (false, .int (F.length : Nat)) := len_mapA F
  have hr : evRng [.int (F.length : Nat)] = some ((List.range F.length).map N) := n_rng1 (n := F.length) (by omega)
  unfold f_line_at evDef ir_line_at
  simp only [q_wipeR_1, q_wipeR_2, q_asg_1, q_asg_2, q_asg_3, q_asg_4, q_asg_5, q_asg_6, q_asg_7, q_asgR_1, q_ownedArg_1, q_ownedArgs_1, q_ownedArgs_2, q_itemsOf_1, q_itemsOf_2, q_evE_1, q_evE_2, q_evE_3, q_evE_4, q_evE_5, q_evE_6, q_evE_7, q_evE_8, q_evE_9, q_evE_10, q_evE_11, q_evE_12, q_evE_13, q_evE_14, q_evE_15, q_evE_16, q_evE_17, q_evE_18, q_evE_19, q_evE_20, q_evEs_1, q_evEs_2, q_evP_1, q_evP_2, q_evC_1, q_evC_2, q_evI_1, q_evI_2, q_evRet_1, q_evS_1, q_evS_2, q_evS_3, q_evS_4, q_evS_5, q_evS_6, q_evS_7, q_evS_8, q_evS_9, q_evS_10, q_evS_11, q_evS_12, q_evS_13, q_evS_14, q_evS_15, q_evS_16, q_evSs_1, q_evSs_2, q_oa_0, q_rt_0, q_oa_1, q_rt_1, q_oa_2, q_rt_2, q_oa_3, q_rt_3, q_oa_4, q_rt_4, q_oa_5, q_rt_5, q_oa_6, q_rt_6, q_oa_7, q_rt_7, q_oa_8, q_rt_8, q_oa_9, q_rt_9, q_oa_10, q_rt_10, q_oa_11, q_rt_11, q_oa_12, q_rt_12, q_oa_13, q_rt_13, q_oa_14, q_rt_14, q_oa_15, q_rt_15, q_oa_16, q_rt_16, q_oa_17, q_rt_17, q_oa_18, q_rt_18, q_ar_0, q_ar_1, q_ar_2, asI_i, q_ret, q_bind, q_bindn, q_map, q_mapn, q_evT, q_own, startR, List.getElem?_cons_succ, List.getElem?_cons_zero, List.set_cons_succ, List.set_cons_zero, List.map_cons, List.map_nil, List.replicate, List.length_cons, List.length_nil, List.append_eq, List.nil_append, List.cons_append, Bool.and_true, Bool.true_and, Bool.and_false, Bool.false_and, Bool.not_true, Bool.not_false, if_true, if_false, reduceCtorEq, Nat.reduceSub, Nat.reduceAdd, Nat.reduceLeDiff, Bool.false_eq_true, Bool.or_false, Bool.false_or, ite_true, ite_false, lenOk_0, lenOk_1, lenOk_2, lenOk_3, lenOk_4, lenOk_5, lenOk_6, lenOk_7, lenOk_8, i_add, i_sub, i_neg, i_asI, N_int, i_inti, i_intb, decide_true, decide_false, hlen, hr]
  rw [e]
theorem filter_one {i n : Nat} {p : Nat → Bool} (hi : i < n) (h : p i = true) (hu : ∀ j, p j = true → j = i) : (List.range n).filter p = [i] := by
  rw [range_split hi, List.filter_append, List.filter_cons, if_pos h]
  have h1 : (List.range i).filter p = [] := by
    rw [List.filter_eq_nil_iff]
    intro j hj k
    rw [List.mem_range] at hj
    have := hu j k
    omega
  have h2 : ((List.range n).drop (i + 1)).filter p = [] := by
    rw [List.filter_eq_nil_iff]
    intro j hj k
    have e := hu j k
    subst e
    obtain ⟨m, hm, e⟩ := List.mem_iff_getElem.mp hj
    rw [List.getElem_drop, List.getElem_range] at e
    omega
  rw [h1, h2]
  rfl
theorem lines_nodup [NSq d] {E : List (Ed d)} {F : List (Ln d)} (h : IsLines E F) : F.Nodup := by
  refine List.Pairwise.imp_of_mem ?_ h.pw
  intro a b ha hb hab e
  subst e
  exact before_irr (h.cp a ha) hab
theorem on_one [NSq d] {E : List (Ed d)} {F : List (Ln d)} (h : IsLines E F) {x y : Q d} {i j : Nat} (hi : on F x y i) (hj : on F x y j) : i = j := by
  obtain ⟨u, e1, a1, a2, a3⟩ := hi
  obtain ⟨v, e2, b1, b2, b3⟩ := hj
  have cu := h.cp u (List.mem_of_getElem? e1)
  have cv := h.cp v (List.mem_of_getElem? e2)
  have e : u = v := by
    by_cases k : u.2.2 ≤ v.2.2
    · exact comp_eq cu cv (a1.trans b1.symm) a3 a2 (Std.le_refl _) b2 k
    · exact comp_eq cu cv (a1.trans b1.symm) b3 a2 (by grind) b2 (Std.le_refl _)
  subst e
  obtain ⟨h1, e1⟩ := List.getElem?_eq_some_iff.mp e1
  obtain ⟨h2, e2⟩ := List.getElem?_eq_some_iff.mp e2
  have hn := lines_nodup h
  apply Classical.byContradiction
  intro c
  rcases Nat.lt_or_gt_of_ne c with c | c
  · exact List.pairwise_iff_getElem.mp hn i j h1 h2 c (e1.trans e2.symm)
  · exact List.pairwise_iff_getElem.mp hn j i h2 h1 c (e2.trans e1.symm)
theorem on_some [NSq d] {E : List (Ed d)} {F : List (Ln d)} (h : IsLines E F) {e : Ed d} (he : e ∈ E) (hlt : e.1 < e.2.2) : ∃ i, on F e.1 e.2.1 i := by
  obtain ⟨u, hu, k1, k2, k3⟩ := h.al e he
  obtain ⟨i, hi, e1⟩ := List.mem_iff_getElem.mp hu
  exact ⟨i, u, by rw [List.getElem?_eq_getElem hi, e1], k1, k2, by grind⟩
/-- lower lines stand ahead of higher ones -/
theorem on_lt [NSq d] {E : List (Ed d)} {F : List (Ln d)} (h : IsLines E F) {x x' y y' : Q d} {i j : Nat} (hi : on F x y i) (hj : on F x' y' j) (hy : y < y') : i < j := by
  obtain ⟨u, e1, a1, -⟩ := hi
  obtain ⟨v, e2, b1, -⟩ := hj
  obtain ⟨h1, e1⟩ := List.getElem?_eq_some_iff.mp e1
  obtain ⟨h2, e2⟩ := List.getElem?_eq_some_iff.mp e2
  apply Classical.byContradiction
  intro k
  by_cases c : i = j
  · subst c
    rw [e1] at e2
    subst e2
    rw [a1] at b1
    rw [b1] at hy
    exact absurd hy (by grind)
  · have hb := List.pairwise_iff_getElem.mp h.pw j i h2 h1 (by omega)
    rw [e1, e2] at hb
    rcases hb with hb | ⟨hb, -⟩
    · rw [a1, b1] at hb; exact absurd hy (by grind)
    · rw [a1, b1] at hb; rw [hb] at hy; exact absurd hy (by grind)
noncomputable def ixL [NSq d] (F : List (Ln d)) (x y : Q d) : Nat := if h : ∃ i, on F x y i then choose h else 0
theorem ixL_on [NSq d] {F : List (Ln d)} {x y : Q d} (h : ∃ i, on F x y i) : on F x y (ixL F x y) := by
  unfold ixL
  rw [dif_pos h]
  exact choose_spec h
noncomputable def netT [NSq d] (F : List (Ln d)) (T : List (Tl d)) : List (Nat × Nat) := T.map fun t => (ixL F (fx t) (fy t), ixL F (fx t) (ft t))
def encPr (p : Nat × Nat) : PyData := .tuple [N p.1, N p.2]
theorem lines_sz [NSq d] {T : List (Tl d)} {F : List (Ln d)} {k : Nat} (h : OkT k T) (hF : IsLines (edges T) F) : SzL (k + k + 1) F := fun u hu => by
  have hz := edges_sz h
  have c := hF.cp u hu
  obtain ⟨e, he, e1, e2⟩ := c.left
  obtain ⟨e', he', e3, e4⟩ := c.right
  have z1 := hz e he
  have z2 := hz e' he'
  rw [e1, e2] at z1
  rw [e4] at z2
  exact ⟨z1.2.1, z1.1, z2.2.2⟩
theorem tile_on [NSq d] {T : List (Tl d)} {F : List (Ln d)} {k : Nat} (h : OkT k T) (hF : IsLines (edges T) F) {t : Tl d} (ht : t ∈ T) : (∃ i, on F (fx t) (fy t) i) ∧ ∃ i, on F (fx t) (ft t) i := by
  have m1 : ((fx t, fy t, fr t) : Ed d) ∈ edges T := mem_edges.mpr ⟨t, ht, .inl rfl⟩
  have m2 : ((fx t, ft t, fr t) : Ed d) ∈ edges T := mem_edges.mpr ⟨t, ht, .inr rfl⟩
  exact ⟨on_some hF m1 (edges_lt h _ m1), on_some hF m2 (edges_lt h _ m2)⟩
theorem net_of_is [NSq d] {T : List (Tl d)} {F : List (Ln d)} {k : Nat} {sh : PyData} (hd : d < 64) (h : OkT k T) (hk : k ≤ 400) (hn : T.length ≤ 200) (hF : IsLines (edges T) F) : f_net_of [.int (d : Int), sh, .list (T.map encTl)] = some (true, .list ((netT F T).map encPr)) := by
  obtain ⟨G, g1, g3, g2⟩ := lying_lines_is (sh := sh) hd h (by omega) hn
  have e := lines_unique (edges_lt h) hF g1
  subst e
  have hz := lines_sz h hF
  have e1 : ∀ (b : Bool) (s4 : Option R), evE ic_net_of_1 b [sI (d : Int), some (false, sh), some (false, .list (T.map encTl)), some (false, .list (F.map encLn)), s4] = some (true, .list ((netT F T).map encPr)) := fun b s4 => by
    unfold ic_net_of_1
    simp only [q_wipeR_1, q_wipeR_2, q_asg_1, q_asg_2, q_asg_3, q_asg_4, q_asg_5, q_asg_6, q_asg_7, q_asgR_1, q_ownedArg_1, q_ownedArgs_1, q_ownedArgs_2, q_itemsOf_1, q_itemsOf_2, q_evE_1, q_evE_2, q_evE_3, q_evE_4, q_evE_5, q_evE_6, q_evE_7, q_evE_8, q_evE_9, q_evE_10, q_evE_11, q_evE_12, q_evE_13, q_evE_14, q_evE_15, q_evE_16, q_evE_17, q_evE_18, q_evE_19, q_evE_20, q_evEs_1, q_evEs_2, q_evP_1, q_evP_2, q_evC_1, q_evC_2, q_evI_1, q_evI_2, q_evRet_1, q_evS_1, q_evS_2, q_evS_3, q_evS_4, q_evS_5, q_evS_6, q_evS_7, q_evS_8, q_evS_9, q_evS_10, q_evS_11, q_evS_12, q_evS_13, q_evS_14, q_evS_15, q_evS_16, q_evSs_1, q_evSs_2, q_oa_0, q_rt_0, q_oa_1, q_rt_1, q_oa_2, q_rt_2, q_oa_3, q_rt_3, q_oa_4, q_rt_4, q_oa_5, q_rt_5, q_oa_6, q_rt_6, q_oa_7, q_rt_7, q_oa_8, q_rt_8, q_oa_9, q_rt_9, q_oa_10, q_rt_10, q_oa_11, q_rt_11, q_oa_12, q_rt_12, q_oa_13, q_rt_13, q_oa_14, q_rt_14, q_oa_15, q_rt_15, q_oa_16, q_rt_16, q_oa_17, q_rt_17, q_oa_18, q_rt_18, q_ar_0, q_ar_1, q_ar_2, asI_i, q_ret, q_bind, q_bindn, q_map, q_mapn, q_evT, q_own, startR, List.getElem?_cons_succ, List.getElem?_cons_zero, List.set_cons_succ, List.set_cons_zero, List.map_cons, List.map_nil, List.replicate, List.length_cons, List.length_nil, List.append_eq, List.nil_append, List.cons_append, Bool.and_true, Bool.true_and, Bool.and_false, Bool.false_and, Bool.not_true, Bool.not_false, if_true, if_false, reduceCtorEq, Nat.reduceSub, Nat.reduceAdd, Nat.reduceLeDiff, Bool.false_eq_true, Bool.or_false, Bool.false_or, ite_true, ite_false, lenOk_0, lenOk_1, lenOk_2, lenOk_3, lenOk_4, lenOk_5, lenOk_6, lenOk_7, lenOk_8, i_add, i_sub, i_neg, i_asI, N_int, i_inti, i_intb, decide_true, decide_false]
    rw [compGo_map (en2 := encPr) (fun t : Tl d => some (ixL F (fx t) (fy t), ixL F (fx t) (ft t))), filterMap_some]
    · rfl
    intro t ht
    obtain ⟨o1, o2⟩ := tile_on h hF ht
    have q1 := line_at_is hd hz ((h t ht).1.1.mono (show k ≤ k + k + 1 by omega)) (by omega) (by omega) (ixL_on o1) fun j hj => on_one hF hj (ixL_on o1)
    have q2 := line_at_is hd hz ((h t ht).1.1.mono (show k ≤ k + k + 1 by omega)) (by omega) (by omega) (ixL_on o2) fun j hj => on_one hF hj (ixL_on o2)
    have q1 : f_line_at [.int (d : Int), .list (F.map encLn), L t.1, L t.2.1] = some (false, .int (ixL F (fx t) (fy t) : Int)) := q1
    have q2 : f_line_at [.int (d : Int), .list (F.map encLn), L t.1, L (t.2.1 + t.2.2.2)] = some (false, .int (ixL F (fx t) (ft t) : Int)) := q2
    simp only [q_wipeR_1, q_wipeR_2, q_asg_1, q_asg_2, q_asg_3, q_asg_4, q_asg_5, q_asg_6, q_asg_7, q_asgR_1, q_ownedArg_1, q_ownedArgs_1, q_ownedArgs_2, q_itemsOf_1, q_itemsOf_2, q_evE_1, q_evE_2, q_evE_3, q_evE_4, q_evE_5, q_evE_6, q_evE_7, q_evE_8, q_evE_9, q_evE_10, q_evE_11, q_evE_12, q_evE_13, q_evE_14, q_evE_15, q_evE_16, q_evE_17, q_evE_18, q_evE_19, q_evE_20, q_evEs_1, q_evEs_2, q_evP_1, q_evP_2, q_evC_1, q_evC_2, q_evI_1, q_evI_2, q_evRet_1, q_evS_1, q_evS_2, q_evS_3, q_evS_4, q_evS_5, q_evS_6, q_evS_7, q_evS_8, q_evS_9, q_evS_10, q_evS_11, q_evS_12, q_evS_13, q_evS_14, q_evS_15, q_evS_16, q_evSs_1, q_evSs_2, q_oa_0, q_rt_0, q_oa_1, q_rt_1, q_oa_2, q_rt_2, q_oa_3, q_rt_3, q_oa_4, q_rt_4, q_oa_5, q_rt_5, q_oa_6, q_rt_6, q_oa_7, q_rt_7, q_oa_8, q_rt_8, q_oa_9, q_rt_9, q_oa_10, q_rt_10, q_oa_11, q_rt_11, q_oa_12, q_rt_12, q_oa_13, q_rt_13, q_oa_14, q_rt_14, q_oa_15, q_rt_15, q_oa_16, q_rt_16, q_oa_17, q_rt_17, q_oa_18, q_rt_18, q_ar_0, q_ar_1, q_ar_2, asI_i, q_ret, q_bind, q_bindn, q_map, q_mapn, q_evT, q_own, startR, List.getElem?_cons_succ, List.getElem?_cons_zero, List.set_cons_succ, List.set_cons_zero, List.map_cons, List.map_nil, List.replicate, List.length_cons, List.length_nil, List.append_eq, List.nil_append, List.cons_append, Bool.and_true, Bool.true_and, Bool.and_false, Bool.false_and, Bool.not_true, Bool.not_false, if_true, if_false, reduceCtorEq, Nat.reduceSub, Nat.reduceAdd, Nat.reduceLeDiff, Bool.false_eq_true, Bool.or_false, Bool.false_or, ite_true, ite_false, lenOk_0, lenOk_1, lenOk_2, lenOk_3, lenOk_4, lenOk_5, lenOk_6, lenOk_7, lenOk_8, i_add, i_sub, i_neg, i_asI, N_int, i_inti, i_intb, decide_true, decide_false, ixT0, ixT1, q1, q2, top_of_is (h t ht).1 (show k ≤ 4000 by omega)]
    rfl
  have rt2 : ∀ ρ, evRet ic_net_of_1 ρ = evE ic_net_of_1 false ρ := fun ρ => q_rt_17
  unfold f_net_of evDef ir_net_of
  simp only [q_wipeR_1, q_wipeR_2, q_asg_1, q_asg_2, q_asg_3, q_asg_4, q_asg_5, q_asg_6, q_asg_7, q_asgR_1, q_ownedArg_1, q_ownedArgs_1, q_ownedArgs_2, q_itemsOf_1, q_itemsOf_2, q_evE_1, q_evE_2, q_evE_3, q_evE_4, q_evE_5, q_evE_6, q_evE_7, q_evE_8, q_evE_9, q_evE_10, q_evE_11, q_evE_12, q_evE_13, q_evE_14, q_evE_15, q_evE_16, q_evE_17, q_evE_18, q_evE_19, q_evE_20, q_evEs_1, q_evEs_2, q_evP_1, q_evP_2, q_evC_1, q_evC_2, q_evI_1, q_evI_2, q_evRet_1, q_evS_1, q_evS_2, q_evS_3, q_evS_4, q_evS_5, q_evS_6, q_evS_7, q_evS_8, q_evS_9, q_evS_10, q_evS_11, q_evS_12, q_evS_13, q_evS_14, q_evS_15, q_evS_16, q_evSs_1, q_evSs_2, q_oa_0, q_rt_0, q_oa_1, q_rt_1, q_oa_2, q_rt_2, q_oa_3, q_rt_3, q_oa_4, q_rt_4, q_oa_5, q_rt_5, q_oa_6, q_rt_6, q_oa_7, q_rt_7, q_oa_8, q_rt_8, q_oa_9, q_rt_9, q_oa_10, q_rt_10, q_oa_11, q_rt_11, q_oa_12, q_rt_12, q_oa_13, q_rt_13, q_oa_14, q_rt_14, q_oa_15, q_rt_15, q_oa_16, q_rt_16, q_oa_17, q_rt_17, q_oa_18, q_rt_18, q_ar_0, q_ar_1, q_ar_2, asI_i, q_ret, q_bind, q_bindn, q_map, q_mapn, q_evT, q_own, startR, List.getElem?_cons_succ, List.getElem?_cons_zero, List.set_cons_succ, List.set_cons_zero, List.map_cons, List.map_nil, List.replicate, List.length_cons, List.length_nil, List.append_eq, List.nil_append, List.cons_append, Bool.and_true, Bool.true_and, Bool.and_false, Bool.false_and, Bool.not_true, Bool.not_false, if_true, if_false, reduceCtorEq, Nat.reduceSub, Nat.reduceAdd, Nat.reduceLeDiff, Bool.false_eq_true, Bool.or_false, Bool.false_or, ite_true, ite_false, lenOk_0, lenOk_1, lenOk_2, lenOk_3, lenOk_4, lenOk_5, lenOk_6, lenOk_7, lenOk_8, i_add, i_sub, i_neg, i_asI, N_int, i_inti, i_intb, decide_true, decide_false, g2, rt2, e1]
theorem ixL_eq [NSq d] {E : List (Ed d)} {F : List (Ln d)} (hF : IsLines E F) {x y : Q d} {i : Nat} (h : on F x y i) : ixL F x y = i := on_one hF (ixL_on ⟨i, h⟩) h
theorem on_len [NSq d] {F : List (Ln d)} {x y : Q d} {i : Nat} (h : on F x y i) : i < F.length := by
  obtain ⟨u, e, -⟩ := h
  exact (List.getElem?_eq_some_iff.mp e).1
/-- a line that holds an edge at the height of an outer edge is that edge -/
theorem outer [NSq d] {T : List (Tl d)} {F : List (Ln d)} {s : Tl d} (hf : Fit T s) (hF : IsLines (edges T) F) {i j : Nat} {y : Q d} (hj : F[j]? = some (y, fx s, fr s)) {u : Ln d} (hi : F[i]? = some u) (hy : u.1 = y) : i = j := by
  have cu := hF.cp u (List.mem_of_getElem? hi)
  obtain ⟨e, he, e1, e2⟩ := cu.left
  obtain ⟨e', he', e3, e4⟩ := cu.right
  have ins : ∀ e ∈ edges T, fx s ≤ e.1 ∧ e.2.2 ≤ fr s := fun e he => by
    obtain ⟨t, ht, he⟩ := mem_edges.mp he
    obtain ⟨a1, a2, a3, a4⟩ := hf.ins t ht
    rcases he with rfl | rfl
    · exact ⟨a1, a2⟩
    · exact ⟨a1, a2⟩
  have i1 := (ins e he).1
  have i2 := (ins e' he').2
  have lt := cu.lt
  exact on_one hF (x := u.2.1) (y := y) ⟨u, hi, hy, Std.le_refl _, lt⟩ ⟨_, hj, rfl, by show fx s ≤ u.2.1; grind, by show u.2.1 < fr s; grind⟩
theorem nets [NSq d] {T : List (Tl d)} {F : List (Ln d)} {s : Tl d} {k : Nat} (h : OkT k T) (hs : 0 < s.2.2.1 ∧ 0 < s.2.2.2) (hf : Fit T s) (hb : Nb T s) (hF : IsLines (edges T) F) :
    (∀ p ∈ netT F T, p.1 < p.2 ∧ p.2 < F.length) ∧ (∀ i, i ∈ (netT F T).map Prod.fst ↔ 0 ≤ i ∧ i < 0 + (F.length - 1)) ∧ (∀ i, i ∈ (netT F T).map Prod.snd ↔ 1 ≤ i ∧ i < 1 + (F.length - 1)) := by
  have pr : ∀ t ∈ T, ixL F (fx t) (fy t) < ixL F (fx t) (ft t) ∧ ixL F (fx t) (ft t) < F.length := fun t ht => by
    obtain ⟨o1, o2⟩ := tile_on h hF ht
    have hp := (hf.pos t ht).2
    exact ⟨on_lt hF (ixL_on o1) (ixL_on o2) (by unfold fy ft; grind), on_len (ixL_on o2)⟩
  obtain ⟨M, hM⟩ := fit_ends hf hs hF
  have hlen : F.length = M.length + 2 := by rw [hM]; simp
  have f0 : F[0]? = some (fy s, fx s, fr s) := by rw [hM]; rfl
  have f1 : F[F.length - 1]? = some (ft s, fx s, fr s) := by
    rw [hlen, hM, List.getElem?_append_right (by simp)]
    simp
  refine ⟨fun p hp => ?_, fun i => ?_, fun i => ?_⟩
  · obtain ⟨t, ht, rfl⟩ := List.mem_map.mp hp
    exact pr t ht
  · constructor
    · intro hi
      obtain ⟨p, hp, rfl⟩ := List.mem_map.mp hi
      obtain ⟨t, ht, rfl⟩ := List.mem_map.mp hp
      have := pr t ht
      show 0 ≤ ixL F (fx t) (fy t) ∧ ixL F (fx t) (fy t) < _
      omega
    · rintro ⟨-, hi⟩
      have hil : i < F.length := by omega
      have hu : F[i]? = some F[i] := List.getElem?_eq_getElem hil
      have cu := hF.cp _ (List.getElem_mem hil)
      generalize F[i] = u at *
      have fin : ∀ t ∈ T, fy t = u.1 → fx t = u.2.1 → i ∈ (netT F T).map Prod.fst := fun t ht e1 e2 => by
        refine List.mem_map.mpr ⟨_, List.mem_map.mpr ⟨t, ht, rfl⟩, ?_⟩
        exact ixL_eq hF ⟨u, hu, e1.symm, by rw [e2]; exact Std.le_refl _, by rw [e2]; exact cu.lt⟩
      obtain ⟨e, he, e1, e2⟩ := cu.left
      obtain ⟨t, ht, rfl | rfl⟩ := mem_edges.mp he
      · exact fin t ht e1 e2
      · have e1 : ft t = u.1 := e1
        have e2 : fx t = u.2.1 := e2
        have hne : ft t ≠ ft s := fun c => by
          have := outer hf hF f1 hu (e1.symm.trans c)
          omega
        have hw : fx t < fr t := by have := (hf.pos t ht).1; unfold fx fr; grind
        obtain ⟨v, hv, v1, v2, v3⟩ := hb.up t ht hne (fx t) (Std.le_refl _) hw
        refine fin v hv (v1.trans e1) ?_
        have := cu.ml _ (mem_edges.mpr ⟨v, hv, .inl rfl⟩) (v1.trans e1)
        have this : ¬ (fx v < u.2.1 ∧ u.2.1 ≤ fr v) := this
        rw [e2] at v2 v3
        grind
  · constructor
    · intro hi
      obtain ⟨p, hp, rfl⟩ := List.mem_map.mp hi
      obtain ⟨t, ht, rfl⟩ := List.mem_map.mp hp
      have := pr t ht
      show 1 ≤ ixL F (fx t) (ft t) ∧ ixL F (fx t) (ft t) < _
      omega
    · rintro ⟨h1, hi⟩
      have hil : i < F.length := by omega
      have hu : F[i]? = some F[i] := List.getElem?_eq_getElem hil
      have cu := hF.cp _ (List.getElem_mem hil)
      generalize F[i] = u at *
      have fin : ∀ t ∈ T, ft t = u.1 → fx t = u.2.1 → i ∈ (netT F T).map Prod.snd := fun t ht e1 e2 => by
        refine List.mem_map.mpr ⟨_, List.mem_map.mpr ⟨t, ht, rfl⟩, ?_⟩
        exact ixL_eq hF ⟨u, hu, e1.symm, by rw [e2]; exact Std.le_refl _, by rw [e2]; exact cu.lt⟩
      obtain ⟨e, he, e1, e2⟩ := cu.left
      obtain ⟨t, ht, rfl | rfl⟩ := mem_edges.mp he
      · have e1 : fy t = u.1 := e1
        have e2 : fx t = u.2.1 := e2
        have hne : fy t ≠ fy s := fun c => by
          have := outer hf hF f0 hu (e1.symm.trans c)
          omega
        have hw : fx t < fr t := by have := (hf.pos t ht).1; unfold fx fr; grind
        obtain ⟨v, hv, v1, v2, v3⟩ := hb.dn t ht hne (fx t) (Std.le_refl _) hw
        refine fin v hv (v1.trans e1) ?_
        have := cu.ml _ (mem_edges.mpr ⟨v, hv, .inr rfl⟩) (v1.trans e1)
        have this : ¬ (fx v < u.2.1 ∧ u.2.1 ≤ fr v) := this
        rw [e2] at v2 v3
        grind
      · exact fin t ht e1 e2
end K83

set_option Elab.async false
set_option linter.all false
set_option maxRecDepth 100000
set_option maxHeartbeats 4000000
namespace K83
open PySem L2 PV Qu LL
open Classical
variable {d : Nat}
/-- tiles without a common point within -/
def apart [NSq d] (t u : Tl d) : Prop := fr t ≤ fx u ∨ fr u ≤ fx t ∨ ft t ≤ fy u ∨ ft u ≤ fy t
theorem apart_symm [NSq d] {t u : Tl d} (h : apart t u) : apart u t := by
  rcases h with h | h | h | h
  · exact .inr (.inl h)
  · exact .inl h
  · exact .inr (.inr (.inr h))
  · exact .inr (.inr (.inl h))
def Dj [NSq d] (T : List (Tl d)) : Prop := T.Pairwise apart
theorem Dj.perm [NSq d] {T U : List (Tl d)} (h : Dj T) (p : U.Perm T) : Dj U := List.Perm.pairwise p.symm h (fun h => apart_symm h)
theorem Dj.one [NSq d] (s : Tl d) : Dj [s] := List.pairwise_singleton _ _
theorem apart_in [NSq d] {t u m : Tl d} (h : apart t u) (i : fx t ≤ fx m ∧ fr m ≤ fr t ∧ fy t ≤ fy m ∧ ft m ≤ ft t) : apart m u := by
  obtain ⟨i1, i2, i3, i4⟩ := i
  unfold apart at h ⊢
  grind
theorem Dj.into [NSq d] {A B M : List (Tl d)} {t : Tl d} (h : Dj (A ++ t :: B)) (g : Fit M t) (k : Dj M) : Dj (A ++ M ++ B) := by
  have h1 : Dj (t :: (A ++ B)) := h.perm (List.perm_middle (l₁ := A) (a := t) (l₂ := B)).symm
  unfold Dj at h1
  rw [List.pairwise_cons] at h1
  have p : (A ++ M ++ B).Perm (M ++ (A ++ B)) := by
    rw [← List.append_assoc]
    exact List.Perm.append_right _ List.perm_append_comm
  refine Dj.perm ?_ p
  refine List.pairwise_append.mpr ⟨k, h1.2, fun m hm u hu => apart_in (h1.1 u hu) (g.ins m hm)⟩
theorem dj_split0 [NSq d] {x y w h l m : Q d} : Dj [((x, y, l, h) : Tl d), (x + l, y, m, h)] := by
  refine List.pairwise_cons.mpr ⟨fun u hu => ?_, List.pairwise_singleton _ _⟩
  rw [List.mem_singleton.mp hu]
  left
  exact Std.le_refl _
theorem dj_split1 [NSq d] {x y w h l m : Q d} : Dj [((x, y, w, l) : Tl d), (x, y + l, w, m)] := by
  refine List.pairwise_cons.mpr ⟨fun u hu => ?_, List.pairwise_singleton _ _⟩
  rw [List.mem_singleton.mp hu]
  right; right; left
  exact Std.le_refl _
theorem dj_wheel [NSq d] {x y w h a b c e i j : Q d} (ha : 0 < a) (hb : 0 < b) (hc : 0 < c) (he : 0 < e) (hi : 0 < i) (hj : 0 < j) (e1 : a + c = w) (e2 : b + e = h) (e3 : a + i = c) (e4 : b + j = e) :
    Dj [((x, y, c, b) : Tl d), (x + c, y, a, e), (x + a, y + e, c, b), (x, y + b, a, e), (x + a, y + b, i, j)] := by
  unfold Dj
  simp only [List.pairwise_cons, List.mem_cons, List.not_mem_nil, or_false, forall_eq_or_imp, forall_eq, List.Pairwise.nil, and_true, false_imp_iff, implies_true, apart, fx, fy, fr, ft]
  refine ⟨⟨?_, ?_, ?_, ?_⟩, ⟨?_, ?_, ?_⟩, ⟨?_, ?_⟩, ?_⟩ <;> grind
theorem Dj.cut [NSq d] {T T' : List (Tl d)} {s : Tl d} (hf : Fit T s) (h : Dj T) (c : Cut1 T T') : Dj T' := by
  cases c with
  | @split A B t side c r e hr =>
    subst e
    have ht := hf.pos t (by simp)
    obtain ⟨a1, a2⟩ := left_pos hr ht.1
    obtain ⟨b1, b2⟩ := left_pos hr ht.2
    unfold splitT
    split
    · exact h.into (fit_split0 a1 a2 ht.2 (by grind)) (dj_split0 (w := t.2.2.1))
    · exact h.into (fit_split1 b1 b2 ht.1 (by grind)) (dj_split1 (h := t.2.2.2))
  | @wheel A B t c r e hr hc =>
    subst e
    have ht := hf.pos t (by simp)
    obtain ⟨a1, a2⟩ := left_pos hr ht.1
    obtain ⟨b1, b2⟩ := left_pos hr ht.2
    unfold wheelT
    exact h.into (fit_wheel a1 b1 a2 b2 (mid_pos hr hc ht.1) (mid_pos hr hc ht.2) (by grind) (by grind) (by grind) (by grind)) (dj_wheel (w := t.2.2.1) (h := t.2.2.2) a1 b1 a2 b2 (mid_pos hr hc ht.1) (mid_pos hr hc ht.2) (by grind) (by grind) (by grind) (by grind))
theorem dj_cuts [NSq d] {s : Tl d} (hs : 0 < s.2.2.1 ∧ 0 < s.2.2.2) : ∀ {n : Nat} {T : List (Tl d)}, CutN [s] n T → Dj T
  | _, _, .zero => Dj.one s
  | _, _, .succ h c => Dj.cut (fit_cuts hs h) (dj_cuts hs h) c
/-! ### sums -/
def qs : List (Q d) → Q d
  | [] => 0
  | x :: xs => x + qs xs
theorem qs_app : ∀ l r : List (Q d), qs (l ++ r) = qs l + qs r
  | [], r => by show qs r = 0 + qs r; grind
  | x :: l, r => by show x + qs (l ++ r) = x + qs l + qs r; rw [qs_app l r]; grind
theorem qs_perm {l r : List (Q d)} (h : l.Perm r) : qs l = qs r := by
  induction h with
  | nil => rfl
  | cons x _ ih => show x + _ = x + _; rw [ih]
  | swap x y l => show y + (x + qs l) = x + (y + qs l); grind
  | trans _ _ h1 h2 => exact h1.trans h2
/-- stretches side by side -/
theorem part_sum [NSq d] : ∀ (n : Nat) (I : List (Q d × Q d)) (a b : Q d), I.length = n → a ≤ b → (∀ i ∈ I, a ≤ i.1 ∧ i.1 < i.2 ∧ i.2 ≤ b) → (I.Pairwise fun i j => i.2 ≤ j.1 ∨ j.2 ≤ i.1) → (∀ p, a ≤ p → p < b → ∃ i ∈ I, i.1 ≤ p ∧ p < i.2) → qs (I.map fun i => i.2 - i.1) = b - a
  | 0, I, a, b, hn, hab, hin, hp, hc => by
    rw [List.length_eq_zero_iff] at hn
    subst hn
    have e : a = b := by
      apply Classical.byContradiction
      intro k
      obtain ⟨i, hi, -⟩ := hc a (Std.le_refl _) (by grind)
      cases hi
    rw [e]
    show (0 : Q d) = b - b
    grind
  | n + 1, I, a, b, hn, hab, hin, hp, hc => by
    have hlt : a < b := by
      match I, hn with
      | i :: I, _ => have := hin i List.mem_cons_self; grind
    obtain ⟨i, hi, h1, h2⟩ := hc a (Std.le_refl _) hlt
    obtain ⟨i1, i2, i3⟩ := hin i hi
    obtain ⟨A, B, rfl⟩ := List.append_of_mem hi
    have hP : (A ++ i :: B).Perm (i :: (A ++ B)) := List.perm_middle
    have hp2 := List.Perm.pairwise hP hp (fun {x y} h => h.symm)
    rw [List.pairwise_cons] at hp2
    have sub : ∀ j ∈ A ++ B, j ∈ A ++ i :: B := fun j hj => hP.mem_iff.mpr (List.mem_cons_of_mem _ hj)
    have ih := part_sum n (A ++ B) i.2 b (by
      have := hP.length_eq
      rw [hn, List.length_cons] at this
      omega) i3 (fun j hj => by
      obtain ⟨j1, j2, j3⟩ := hin j (sub j hj)
      have := hp2.1 j hj
      refine ⟨?_, j2, j3⟩
      rcases this with this | this
      · exact this
      · grind) hp2.2 (fun p p1 p2 => by
      obtain ⟨j, hj, k1, k2⟩ := hc p (by grind) p2
      rcases List.mem_cons.mp (hP.mem_iff.mp hj) with rfl | hj
      · grind
      · exact ⟨j, hj, k1, k2⟩)
    rw [qs_perm (hP.map _)]
    show i.2 - i.1 + qs _ = _
    rw [ih]
    have : i.1 = a := by grind
    rw [this]
    grind
/-- the tiles below a line -/
theorem below_sum [NSq d] {T : List (Tl d)} {F : List (Ln d)} {s : Tl d} {k i : Nat} {u : Ln d} (h : OkT k T) (hs : 0 < s.2.2.1 ∧ 0 < s.2.2.2) (hf : Fit T s) (hb : Nb T s) (hj : Dj T) (hF : IsLines (edges T) F) (hu : F[i]? = some u) (hi : 0 < i) :
    qs ((T.filter fun t => decide (ixL F (fx t) (ft t) = i)).map fun t => t.2.2.1) = u.2.2 - u.2.1 := by
  obtain ⟨M, hM⟩ := fit_ends hf hs hF
  have f0 : F[0]? = some (fy s, fx s, fr s) := by rw [hM]; rfl
  have cu := hF.cp u (List.mem_of_getElem? hu)
  have on_of : ∀ t ∈ T, ixL F (fx t) (ft t) = i → u.1 = ft t ∧ u.2.1 ≤ fx t ∧ fx t < u.2.2 := fun t ht e => by
    have o := ixL_on (tile_on h hF ht).2
    rw [e] at o
    exact (on_dec hu).mp o
  have e : (T.filter fun t => decide (ixL F (fx t) (ft t) = i)).map (fun t => t.2.2.1) = ((T.filter fun t => decide (ixL F (fx t) (ft t) = i)).map fun t => (fx t, fr t)).map fun i => i.2 - i.1 := by
    rw [List.map_map]
    refine List.map_congr_left fun t ht => ?_
    show t.2.2.1 = fr t - fx t
    unfold fr fx; grind
  rw [e]
  refine part_sum _ _ _ _ rfl (Std.le_of_lt cu.lt) (fun q hq => ?_) ?_ (fun p p1 p2 => ?_)
  · obtain ⟨t, ht, rfl⟩ := List.mem_map.mp hq
    obtain ⟨ht, hd⟩ := List.mem_filter.mp ht
    obtain ⟨o1, o2, o3⟩ := on_of t ht (of_decide_eq_true hd)
    have m := cu.mr _ (mem_edges.mpr ⟨t, ht, .inr rfl⟩) o1.symm
    have hp := (hf.pos t ht).1
    have m : ¬ (fx t ≤ u.2.2 ∧ u.2.2 < fr t) := m
    have : fx t < fr t := by unfold fr fx; grind
    exact ⟨o2, this, by show fr t ≤ u.2.2; grind⟩
  · refine List.pairwise_map.mpr ?_
    refine List.Pairwise.imp_of_mem ?_ (List.Pairwise.filter _ hj)
    intro t v ht hv hd
    obtain ⟨ht, e1⟩ := List.mem_filter.mp ht
    obtain ⟨hv, e2⟩ := List.mem_filter.mp hv
    have o1 := (on_of t ht (of_decide_eq_true e1)).1
    have o2 := (on_of v hv (of_decide_eq_true e2)).1
    have h1 := (hf.pos t ht).2
    have h2 := (hf.pos v hv).2
    rcases hd with hd | hd | hd | hd
    · exact .inl hd
    · exact .inr hd
    · have : fy v < ft v := by unfold fy ft; grind
      grind
    · have : fy t < ft t := by unfold fy ft; grind
      grind
  · have fin : ∀ t ∈ T, ft t = u.1 → fx t ≤ p → p < fr t → ∃ q ∈ (T.filter fun t => decide (ixL F (fx t) (ft t) = i)).map (fun t => (fx t, fr t)), q.1 ≤ p ∧ p < q.2 := fun t ht e1 e2 e3 => by
      have m := cu.ml _ (mem_edges.mpr ⟨t, ht, .inr rfl⟩) e1
      have m : ¬ (fx t < u.2.1 ∧ u.2.1 ≤ fr t) := m
      refine ⟨_, List.mem_map.mpr ⟨t, List.mem_filter.mpr ⟨ht, decide_eq_true (ixL_eq hF ⟨u, hu, e1.symm, ?_, ?_⟩)⟩, rfl⟩, e2, e3⟩
      · grind
      · grind
    obtain ⟨e, he, q1, q2, q3⟩ : ∃ e ∈ edges T, e.2.1 = u.1 ∧ e.1 ≤ p ∧ p < e.2.2 := by
      by_cases c : u.2.1 < p
      · exact cu.c2 p c p2
      · obtain ⟨e, he, q1, q2⟩ := cu.left
        have := edges_lt h e he
        exact ⟨e, he, q1, by grind, by grind⟩
    obtain ⟨t, ht, rfl | rfl⟩ := mem_edges.mp he
    · have hne : fy t ≠ fy s := fun c => by
        have := outer hf hF f0 hu (q1.symm.trans c)
        omega
      obtain ⟨v, hv, v1, v2, v3⟩ := hb.dn t ht hne p q2 q3
      exact fin v hv (v1.trans q1) v2 v3
    · exact fin t ht q1 q2 q3
/-- the tiles above a line -/
theorem above_sum [NSq d] {T : List (Tl d)} {F : List (Ln d)} {s : Tl d} {k i : Nat} {u : Ln d} (h : OkT k T) (hs : 0 < s.2.2.1 ∧ 0 < s.2.2.2) (hf : Fit T s) (hb : Nb T s) (hj : Dj T) (hF : IsLines (edges T) F) (hu : F[i]? = some u) (hi : i + 1 < F.length) :
    qs ((T.filter fun t => decide (ixL F (fx t) (fy t) = i)).map fun t => t.2.2.1) = u.2.2 - u.2.1 := by
  obtain ⟨M, hM⟩ := fit_ends hf hs hF
  have hlen : F.length = M.length + 2 := by rw [hM]; simp
  have f1 : F[F.length - 1]? = some (ft s, fx s, fr s) := by
    rw [hlen, hM, List.getElem?_append_right (by simp)]
    simp
  have cu := hF.cp u (List.mem_of_getElem? hu)
  have on_of : ∀ t ∈ T, ixL F (fx t) (fy t) = i → u.1 = fy t ∧ u.2.1 ≤ fx t ∧ fx t < u.2.2 := fun t ht e => by
    have o := ixL_on (tile_on h hF ht).1
    rw [e] at o
    exact (on_dec hu).mp o
  have e : (T.filter fun t => decide (ixL F (fx t) (fy t) = i)).map (fun t => t.2.2.1) = ((T.filter fun t => decide (ixL F (fx t) (fy t) = i)).map fun t => (fx t, fr t)).map fun i => i.2 - i.1 := by
    rw [List.map_map]
    refine List.map_congr_left fun t ht => ?_
    show t.2.2.1 = fr t - fx t
    unfold fr fx; grind
  rw [e]
  refine part_sum _ _ _ _ rfl (Std.le_of_lt cu.lt) (fun q hq => ?_) ?_ (fun p p1 p2 => ?_)
  · obtain ⟨t, ht, rfl⟩ := List.mem_map.mp hq
    obtain ⟨ht, hd⟩ := List.mem_filter.mp ht
    obtain ⟨o1, o2, o3⟩ := on_of t ht (of_decide_eq_true hd)
    have m := cu.mr _ (mem_edges.mpr ⟨t, ht, .inl rfl⟩) o1.symm
    have hp := (hf.pos t ht).1
    have m : ¬ (fx t ≤ u.2.2 ∧ u.2.2 < fr t) := m
    have : fx t < fr t := by unfold fr fx; grind
    exact ⟨o2, this, by show fr t ≤ u.2.2; grind⟩
  · refine List.pairwise_map.mpr ?_
    refine List.Pairwise.imp_of_mem ?_ (List.Pairwise.filter _ hj)
    intro t v ht hv hd
    obtain ⟨ht, e1⟩ := List.mem_filter.mp ht
    obtain ⟨hv, e2⟩ := List.mem_filter.mp hv
    have o1 := (on_of t ht (of_decide_eq_true e1)).1
    have o2 := (on_of v hv (of_decide_eq_true e2)).1
    have h1 := (hf.pos t ht).2
    have h2 := (hf.pos v hv).2
    rcases hd with hd | hd | hd | hd
    · exact .inl hd
    · exact .inr hd
    · have : fy t < ft t := by unfold fy ft; grind
      grind
    · have : fy v < ft v := by unfold fy ft; grind
      grind
  · have fin : ∀ t ∈ T, fy t = u.1 → fx t ≤ p → p < fr t → ∃ q ∈ (T.filter fun t => decide (ixL F (fx t) (fy t) = i)).map (fun t => (fx t, fr t)), q.1 ≤ p ∧ p < q.2 := fun t ht e1 e2 e3 => by
      have m := cu.ml _ (mem_edges.mpr ⟨t, ht, .inl rfl⟩) e1
      have m : ¬ (fx t < u.2.1 ∧ u.2.1 ≤ fr t) := m
      refine ⟨_, List.mem_map.mpr ⟨t, List.mem_filter.mpr ⟨ht, decide_eq_true (ixL_eq hF ⟨u, hu, e1.symm, ?_, ?_⟩)⟩, rfl⟩, e2, e3⟩
      · grind
      · grind
    obtain ⟨e, he, q1, q2, q3⟩ : ∃ e ∈ edges T, e.2.1 = u.1 ∧ e.1 ≤ p ∧ p < e.2.2 := by
      by_cases c : u.2.1 < p
      · exact cu.c2 p c p2
      · obtain ⟨e, he, q1, q2⟩ := cu.left
        have := edges_lt h e he
        exact ⟨e, he, q1, by grind, by grind⟩
    obtain ⟨t, ht, rfl | rfl⟩ := mem_edges.mp he
    · exact fin t ht q1 q2 q3
    · have hne : ft t ≠ ft s := fun c => by
        have := outer hf hF f1 hu (q1.symm.trans c)
        omega
      obtain ⟨v, hv, v1, v2, v3⟩ := hb.up t ht hne p q2 q3
      exact fin v hv (v1.trans q1) v2 v3
/-- sums of tiles, for a form that adds up -/
theorem qcut_sum {f : Q d → Q d → Q d} (fl : ∀ x y h : Q d, f (x + y) h = f x h + f y h) (fr : ∀ w x y : Q d, f w (x + y) = f w x + f w y) {T T' : List (Tl d)} (h : Cut1 T T') : qs (T'.map fun t => f t.2.2.1 t.2.2.2) = qs (T.map fun t => f t.2.2.1 t.2.2.2) := by
  have one : ∀ x : Q d, qs [x] = x := fun x => by show x + 0 = x; grind
  cases h with
  | @split A B t side c r e hr =>
    subst e
    rw [List.map_append, List.map_append, qs_app, qs_app, List.map_append, List.map_cons, qs_app]
    show _ = _ + (_ + _)
    have : qs ((splitT side t r).map fun t => f t.2.2.1 t.2.2.2) = f t.2.2.1 t.2.2.2 := by
      unfold splitT
      split
      · show f (t.2.2.1 * F r) t.2.2.2 + (f (t.2.2.1 - t.2.2.1 * F r) t.2.2.2 + 0) = _
        have := fl (t.2.2.1 * F r) (t.2.2.1 - t.2.2.1 * F r) t.2.2.2
        rw [show t.2.2.1 * F r + (t.2.2.1 - t.2.2.1 * F r) = t.2.2.1 by grind] at this
        rw [this]; grind
      · show f t.2.2.1 (t.2.2.2 * F r) + (f t.2.2.1 (t.2.2.2 - t.2.2.2 * F r) + 0) = _
        have := fr t.2.2.1 (t.2.2.2 * F r) (t.2.2.2 - t.2.2.2 * F r)
        rw [show t.2.2.2 * F r + (t.2.2.2 - t.2.2.2 * F r) = t.2.2.2 by grind] at this
        rw [this]; grind
    rw [this]; grind
  | @wheel A B t c r e hr hc =>
    subst e
    rw [List.map_append, List.map_append, qs_app, qs_app, List.map_append, List.map_cons, qs_app]
    show _ = _ + (_ + _)
    have : qs ((wheelT t r).map fun t => f t.2.2.1 t.2.2.2) = f t.2.2.1 t.2.2.2 := by
      have two : ∀ w h a b : Q d, f (w - a) b + (f a (h - b) + (f (w - a) b + (f a (h - b) + (f (w - a - a) (h - b - b) + 0)))) = f w h := fun w h a b => by
        have s1 := fl (w - a) a b
        have s2 := fr a (h - b) b
        have s3 := fl (w - a - a) a (h - b - b)
        have s4 := fr (w - a) (h - b - b) b
        have s5 := fl (w - a) a (h - b)
        have s6 := fr w (h - b) b
        have s7 := fr a (h - b - b) b
        rw [show w - a + a = w by grind] at s1 s5
        rw [show h - b + b = h by grind] at s2 s6
        rw [show w - a - a + a = w - a by grind] at s3
        rw [show h - b - b + b = h - b by grind] at s4 s7
        grind
      exact two t.2.2.1 t.2.2.2 (t.2.2.1 * F r) (t.2.2.2 * F r)
    rw [this]; grind
theorem qcuts_sum {f : Q d → Q d → Q d} (fl : ∀ x y h : Q d, f (x + y) h = f x h + f y h) (fr : ∀ w x y : Q d, f w (x + y) = f w x + f w y) {T0 : List (Tl d)} : ∀ {n : Nat} {T : List (Tl d)}, CutN T0 n T → qs (T.map fun t => f t.2.2.1 t.2.2.2) = qs (T0.map fun t => f t.2.2.1 t.2.2.2)
  | _, _, .zero => rfl
  | _, _, .succ h c => (qcut_sum fl fr c).trans (qcuts_sum fl fr h)
theorem qs_conj : ∀ l : List (Q d), qs (l.map Q.conj) = (qs l).conj
  | [] => (ext' rfl (by show (0 : Rat) = -0; grind))
  | x :: l => by
    show x.conj + qs (l.map Q.conj) = (x + qs l).conj
    rw [qs_conj l]
    exact ext' rfl (by show -x.b + -(qs l).b = -(x.b + (qs l).b); grind)
theorem Dn.qsum {S B : Nat} : ∀ {l : List (Q d)}, (∀ x ∈ l, Dn S B x) → Dn S (l.length * B) (qs l)
  | [], _ => by rw [List.length_nil, Nat.zero_mul]; exact Dn.zero
  | x :: l, h => by
    have := Dn.add (h x List.mem_cons_self) (Dn.qsum (l := l) fun y hy => h y (List.mem_cons_of_mem _ hy))
    rw [List.length_cons, Nat.add_mul, Nat.one_mul, Nat.add_comm]
    exact this
end K83

set_option Elab.async false
set_option linter.all false
set_option maxRecDepth 100000
set_option maxHeartbeats 4000000
namespace K83
open PySem L2 PV Qu
open Classical
variable {d : Nat}
/-! ### measures -/
def meas (m : Q d × Q d × Q d × Q d) (w h : Q d) : Q d := m.1 * (w * h) + m.2.1 * (w * h.conj) + m.2.2.1 * (w.conj * h) + m.2.2.2 * (w.conj * h.conj)
def encM (m : Q d × Q d × Q d × Q d) : PyData := .tuple [L m.1, L m.2.1, L m.2.2.1, L m.2.2.2]
def SzM (k : Nat) (m : Q d × Q d × Q d × Q d) : Prop := Sz k m.1 ∧ Sz k m.2.1 ∧ Sz k m.2.2.1 ∧ Sz k m.2.2.2
theorem SzM_mono {k l : Nat} {m : Q d × Q d × Q d × Q d} (h : SzM k m) (hl : k ≤ l) : SzM l m := ⟨h.1.mono hl, h.2.1.mono hl, h.2.2.1.mono hl, h.2.2.2.mono hl⟩
theorem zero_sz : Sz 1 (0 : Q d) := by
  obtain ⟨r1, r2, r3⟩ := int_rep (d := d) 0
  have r1 : (0 : Q d).p = 0 := r1
  have r2 : (0 : Q d).q = 0 := r2
  have r3 : (0 : Q d).s = 1 := r3
  exact ⟨by rw [r1]; decide, by rw [r2]; decide, by rw [r3]; decide⟩
theorem zeroC : ((0 : Int) : Q d) = 0 := rfl
theorem items_l (l : List PyData) : itemsOf (.list l) = some l := Eq.trans rfl (Eq.refl _)
theorem measure_is {m : Q d × Q d × Q d × Q d} {w h : Q d} {k : Nat} (hd : d < 64) (hm : SzM k m) (hw : Sz k w) (hh : Sz k h) (hk : k ≤ 300) : f__law_measure [.int (d : Int), encM m, L w, L h] = some (false, L (meas m w h)) ∧ Sz (12 * k + 64) (meas m w h) := by
  obtain ⟨m1, m2, m3, m4⟩ := hm
  have a1 := law_times_is hd hw hh (by omega)
  have a2 := law_times_is hd hw (conj_sz hh) (by omega)
  have a3 := law_times_is hd (conj_sz hw) hh (by omega)
  have a4 := law_times_is hd (conj_sz hw) (conj_sz hh) (by omega)
  have s1 := times_sz hd hw hh
  have s2 := times_sz hd hw (conj_sz hh)
  have s3 := times_sz hd (conj_sz hw) hh
  have s4 := times_sz hd (conj_sz hw) (conj_sz hh)
  have b1 := law_times_is hd m1 s1 (by omega)
  have b2 := law_times_is hd m2 s2 (by omega)
  have b3 := law_times_is hd m3 s3 (by omega)
  have b4 := law_times_is hd m4 s4 (by omega)
  have u1 := times_sz hd m1 s1
  have u2 := times_sz hd m2 s2
  have u3 := times_sz hd m3 s3
  have u4 := times_sz hd m4 s4
  have c1 := law_plus_is zero_sz u1 (by omega)
  have v1 := plus_sz zero_sz u1
  have c2 := law_plus_is v1 u2 (by omega)
  have v2 := plus_sz v1 u2
  have c3 := law_plus_is v2 u3 (by omega)
  have v3 := plus_sz v2 u3
  have c4 := law_plus_is v3 u4 (by omega)
  have v4 := plus_sz v3 u4
  have hz := whole_is (d := d) 0
  rw [zeroC] at hz
  have fin : (0 : Q d) + m.1 * (w * h) + m.2.1 * (w * h.conj) + m.2.2.1 * (w.conj * h) + m.2.2.2 * (w.conj * h.conj) = meas m w h := by
    unfold meas
    have : (0 : Q d) + m.1 * (w * h) = m.1 * (w * h) := by grind
    rw [this]
  constructor
  · unfold f__law_measure evDef ir__law_measure encM
    simp only [q_wipeR_1, q_wipeR_2, q_asg_1, q_asg_2, q_asg_3, q_asg_4, q_asg_5, q_asg_6, q_asg_7, q_asgR_1, q_ownedArg_1, q_ownedArgs_1, q_ownedArgs_2, q_itemsOf_1, q_itemsOf_2, q_evE_1, q_evE_2, q_evE_3, q_evE_4, q_evE_5, q_evE_6, q_evE_7, q_evE_8, q_evE_9, q_evE_10, q_evE_11, q_evE_12, q_evE_13, q_evE_14, q_evE_15, q_evE_16, q_evE_17, q_evE_18, q_evE_19, q_evE_20, q_evEs_1, q_evEs_2, q_evP_1, q_evP_2, q_evC_1, q_evC_2, q_evI_1, q_evI_2, q_evRet_1, q_evS_1, q_evS_2, q_evS_3, q_evS_4, q_evS_5, q_evS_6, q_evS_7, q_evS_8, q_evS_9, q_evS_10, q_evS_11, q_evS_12, q_evS_13, q_evS_14, q_evS_15, q_evS_16, q_evSs_1, q_evSs_2, q_oa_0, q_rt_0, q_oa_1, q_rt_1, q_oa_2, q_rt_2, q_oa_3, q_rt_3, q_oa_4, q_rt_4, q_oa_5, q_rt_5, q_oa_6, q_rt_6, q_oa_7, q_rt_7, q_oa_8, q_rt_8, q_oa_9, q_rt_9, q_oa_10, q_rt_10, q_oa_11, q_rt_11, q_oa_12, q_rt_12, q_oa_13, q_rt_13, q_oa_14, q_rt_14, q_oa_15, q_rt_15, q_oa_16, q_rt_16, q_oa_17, q_rt_17, q_oa_18, q_rt_18, q_ar_0, q_ar_1, q_ar_2, asI_i, q_ret, q_bind, q_bindn, q_map, q_mapn, q_evT, q_own, startR, List.getElem?_cons_succ, List.getElem?_cons_zero, List.set_cons_succ, List.set_cons_zero, List.map_cons, List.map_nil, List.replicate, List.length_cons, List.length_nil, List.append_eq, List.nil_append, List.cons_append, Bool.and_true, Bool.true_and, Bool.and_false, Bool.false_and, Bool.not_true, Bool.not_false, if_true, if_false, reduceCtorEq, Nat.reduceSub, Nat.reduceAdd, Nat.reduceLeDiff, Bool.false_eq_true, Bool.or_false, Bool.false_or, ite_true, ite_false, lenOk_0, lenOk_1, lenOk_2, lenOk_3, lenOk_4, lenOk_5, lenOk_6, lenOk_7, lenOk_8, i_add, i_sub, i_neg, i_asI, N_int, i_inti, i_intb, decide_true, decide_false, hz, ix_t0, ix_t1, ix_t2, ix_t3, law_twin_is, items_l]
    unfold blk ib__law_measure_1
    simp only [q_wipeR_1, q_wipeR_2, q_asg_1, q_asg_2, q_asg_3, q_asg_4, q_asg_5, q_asg_6, q_asg_7, q_asgR_1, q_ownedArg_1, q_ownedArgs_1, q_ownedArgs_2, q_itemsOf_1, q_itemsOf_2, q_evE_1, q_evE_2, q_evE_3, q_evE_4, q_evE_5, q_evE_6, q_evE_7, q_evE_8, q_evE_9, q_evE_10, q_evE_11, q_evE_12, q_evE_13, q_evE_14, q_evE_15, q_evE_16, q_evE_17, q_evE_18, q_evE_19, q_evE_20, q_evEs_1, q_evEs_2, q_evP_1, q_evP_2, q_evC_1, q_evC_2, q_evI_1, q_evI_2, q_evRet_1, q_evS_1, q_evS_2, q_evS_3, q_evS_4, q_evS_5, q_evS_6, q_evS_7, q_evS_8, q_evS_9, q_evS_10, q_evS_11, q_evS_12, q_evS_13, q_evS_14, q_evS_15, q_evS_16, q_evSs_1, q_evSs_2, q_oa_0, q_rt_0, q_oa_1, q_rt_1, q_oa_2, q_rt_2, q_oa_3, q_rt_3, q_oa_4, q_rt_4, q_oa_5, q_rt_5, q_oa_6, q_rt_6, q_oa_7, q_rt_7, q_oa_8, q_rt_8, q_oa_9, q_rt_9, q_oa_10, q_rt_10, q_oa_11, q_rt_11, q_oa_12, q_rt_12, q_oa_13, q_rt_13, q_oa_14, q_rt_14, q_oa_15, q_rt_15, q_oa_16, q_rt_16, q_oa_17, q_rt_17, q_oa_18, q_rt_18, q_ar_0, q_ar_1, q_ar_2, asI_i, q_ret, q_bind, q_bindn, q_map, q_mapn, q_evT, q_own, startR, List.getElem?_cons_succ, List.getElem?_cons_zero, List.set_cons_succ, List.set_cons_zero, List.map_cons, List.map_nil, List.replicate, List.length_cons, List.length_nil, List.append_eq, List.nil_append, List.cons_append, Bool.and_true, Bool.true_and, Bool.and_false, Bool.false_and, Bool.not_true, Bool.not_false, if_true, if_false, reduceCtorEq, Nat.reduceSub, Nat.reduceAdd, Nat.reduceLeDiff, Bool.false_eq_true, Bool.or_false, Bool.false_or, ite_true, ite_false, lenOk_0, lenOk_1, lenOk_2, lenOk_3, lenOk_4, lenOk_5, lenOk_6, lenOk_7, lenOk_8, i_add, i_sub, i_neg, i_asI, N_int, i_inti, i_intb, decide_true, decide_false, q_fg1, q_fg2, a1, a2, a3, a4, b1, b2, b3, b4, c1, c2, c3, c4]
    rw [fin]
  · rw [fin] at v4
    exact v4.mono (by omega)
end K83

set_option Elab.async false
set_option linter.all false
set_option maxRecDepth 100000
set_option maxHeartbeats 4000000
namespace K83
open PySem L2 PV Qu LL
open Classical
variable {d : Nat}
theorem natQ_sz {n k : Nat} (h : n < 2 ^ k) (h0 : 0 < k) : Sz k (((n : Nat) : Int) : Q d) := by
  obtain ⟨j, rfl⟩ : ∃ j, k = j + 1 := ⟨k - 1, by omega⟩
  have e : (((n : Nat) : Int) : Q d) = mkQ d (n : Int) 0 1 := (mkQ_of (by decide) (by show ((n : Int) : Rat) * ((1 : Int) : Rat) = _; have : ((1 : Int) : Rat) = 1 := rfl; rw [this]; grind) (by show (0 : Rat) * _ = _; have : ((0 : Int) : Rat) = 0 := rfl; rw [this]; grind)).symm
  rw [e]
  exact Sz.of (by decide) (by omega) (by rw [Int.natAbs_zero]; exact Nat.pow_pos (by decide)) (by show 1 < 2 ^ (j + 1); rw [Nat.pow_succ]; have := Nat.pow_pos (n := j) (show 0 < 2 by decide); omega)
theorem natQ_ne {n : Nat} (h : 0 < n) : (((n : Nat) : Int) : Q d) ≠ 0 := fun e => by
  have e : ((n : Int) : Rat) = ((0 : Int) : Rat) := congrArg Q.a e
  have := Rat.intCast_inj.mp e
  omega
theorem nat_pos [NSq d] {n : Nat} (h : 0 < n) : (0 : Q d) < (((n : Nat) : Int) : Q d) := by
  have e : (((n : Nat) : Int) : Q d) = F (n : Rat) := ext' (by show ((n : Int) : Rat) = (n : Rat); exact Rat.intCast_natCast n) rfl
  rw [e]
  exact F_pos (Rat.natCast_lt_natCast.mpr h : ((0 : Nat) : Rat) < (n : Rat))
theorem comp_chain [NSq d] {E : List (Ed d)} {y a b : Q d} {P : Tl d → Prop} (hc : Ch fx fr P a b) (hab : a < b) (hP : ∀ t, P t → ((fx t, y, fr t) : Ed d) ∈ E) (ml : ∀ e ∈ E, e.2.1 = y → ¬ (e.1 < a ∧ a ≤ e.2.2)) (mr : ∀ e ∈ E, e.2.1 = y → ¬ (e.1 ≤ b ∧ b < e.2.2)) : Comp E (y, a, b) := by
  have hne : a ≠ b := by grind
  refine ⟨?_, ?_, hab, fun p h1 h2 => ?_, fun p h1 h2 => ?_, ml, mr⟩
  · obtain ⟨t, ht, e⟩ := hc.first hne
    exact ⟨_, hP t ht, rfl, e⟩
  · obtain ⟨t, ht, e⟩ := hc.final hne
    exact ⟨_, hP t ht, rfl, e⟩
  · obtain ⟨t, ht, e1, e2⟩ := hc.c1 p h1 (Std.le_of_lt h2)
    exact ⟨_, hP t ht, rfl, e1, e2⟩
  · obtain ⟨t, ht, e1, e2⟩ := hc.c2 p (Std.le_of_lt h1) h2
    exact ⟨_, hP t ht, rfl, e1, e2⟩
theorem nsq2 : NSq 2 := (nsq_roots (d := 2) (by decide)).2
def wheelL : List (Tl 2) := [(0, 0, 2, 1), (2, 0, 1, 2), (0, 1, 1, 2), (1, 1, 1, 1), (1, 2, 2, 1)]
def linesW : List (Ln 2) := [(0, 0, 3), (1, 0, 2), (2, 1, 3), (3, 0, 3)]
theorem num2 : (0 : Q 2) + 2 = 2 ∧ (0 : Q 2) + 1 = 1 ∧ (2 : Q 2) + 1 = 3 ∧ (0 : Q 2) + 2 = 2 ∧ (1 : Q 2) + 2 = 3 ∧ (1 : Q 2) + 1 = 2 ∧ (0 : Q 2) + 3 = 3 := by
  refine ⟨?_, ?_, ?_, ?_, ?_, ?_, ?_⟩ <;> (apply ext' <;> decide +kernel)
theorem lt2 : (0 : Q 2) < 1 ∧ (1 : Q 2) < 2 ∧ (2 : Q 2) < 3 := by
  haveI := nsq2
  have h : (0 : Q 2) < 1 := by have := F_pos (d := 2) (r := 1) (by decide); exact this
  obtain ⟨-, -, a3, -, -, a6, -⟩ := num2
  exact ⟨h, by rw [← a6]; grind, by rw [← a3]; grind⟩
theorem edgesW (e : Ed 2) : e ∈ edges wheelL ↔ e = (0, 0, 2) ∨ e = (0, 1, 2) ∨ e = (2, 0, 3) ∨ e = (2, 2, 3) ∨ e = (0, 1, 1) ∨ e = (0, 3, 1) ∨ e = (1, 1, 2) ∨ e = (1, 2, 2) ∨ e = (1, 2, 3) ∨ e = (1, 3, 3) := by
  obtain ⟨a1, a2, a3, a4, a5, a6, a7⟩ := num2
  have h : edges wheelL = [(0, 0, 2), (0, 1, 2), (2, 0, 3), (2, 2, 3), (0, 1, 1), (0, 3, 1), (1, 1, 2), (1, 2, 2), (1, 2, 3), (1, 3, 3)] := by
    show [((0, 0, 0 + 2) : Ed 2), (0, 0 + 1, 0 + 2), (2, 0, 2 + 1), (2, 0 + 2, 2 + 1), (0, 1, 0 + 1), (0, 1 + 2, 0 + 1), (1, 1, 1 + 1), (1, 1 + 1, 1 + 1), (1, 2, 1 + 2), (1, 2 + 1, 1 + 2)] = _
    rw [a1, a2, a3, a5, a6]
  rw [h]
  simp only [List.mem_cons, List.not_mem_nil, or_false]
theorem isW [NSq 2] : IsLines (edges wheelL) linesW := by
  obtain ⟨l1, l2, l3⟩ := lt2
  obtain ⟨a1, a2, a3, a4, a5, a6, a7⟩ := num2
  have lk : ∀ {y a b : Q 2} (t : Tl 2), ((fx t, y, fr t) : Ed 2) ∈ edges wheelL → fx t = a → fr t = b → Ch fx fr (fun t => ((fx t, y, fr t) : Ed 2) ∈ edges wheelL) a b := fun t h1 h2 h3 => .link h1 h2 h3
  have f1 : fr ((0, 0, 2, 1) : Tl 2) = 2 := a1
  have f2 : fr ((2, 0, 1, 2) : Tl 2) = 3 := a3
  have f3 : fr ((0, 1, 1, 2) : Tl 2) = 1 := a2
  have f5 : fr ((1, 2, 2, 1) : Tl 2) = 3 := a5
  refine ⟨?_, fun u hu => ?_, fun e he => ?_⟩
  · unfold linesW
    simp only [List.pairwise_cons, List.mem_cons, List.not_mem_nil, or_false, forall_eq_or_imp, forall_eq, List.Pairwise.nil, and_true, false_imp_iff, implies_true, LL.before]
    refine ⟨⟨.inl l1, .inl ?_, .inl ?_⟩, ⟨.inl l2, .inl ?_⟩, .inl l3⟩ <;> grind
  · unfold linesW at hu
    simp only [List.mem_cons, List.not_mem_nil, or_false] at hu
    rcases hu with rfl | rfl | rfl | rfl
    · refine comp_chain ((lk (b := 2) (0, 0, 2, 1) ((edgesW _).mpr (by rw [f1]; exact .inl rfl)) rfl f1).app (lk (2, 0, 1, 2) ((edgesW _).mpr (by rw [f2]; exact .inr (.inr (.inl rfl)))) rfl f2)) (by grind) (fun t ht => ht) (fun e he hy => ?_) (fun e he hy => ?_)
      · rcases (edgesW e).mp he with rfl | rfl | rfl | rfl | rfl | rfl | rfl | rfl | rfl | rfl <;> simp only at hy ⊢ <;> grind
      · rcases (edgesW e).mp he with rfl | rfl | rfl | rfl | rfl | rfl | rfl | rfl | rfl | rfl <;> simp only at hy ⊢ <;> grind
    · refine comp_chain (lk (0, 0, 2, 1) ((edgesW _).mpr (by rw [f1]; exact .inr (.inl rfl))) rfl f1) (by grind) (fun t ht => ht) (fun e he hy => ?_) (fun e he hy => ?_)
      · rcases (edgesW e).mp he with rfl | rfl | rfl | rfl | rfl | rfl | rfl | rfl | rfl | rfl <;> simp only at hy ⊢ <;> grind
      · rcases (edgesW e).mp he with rfl | rfl | rfl | rfl | rfl | rfl | rfl | rfl | rfl | rfl <;> simp only at hy ⊢ <;> grind
    · refine comp_chain (lk (1, 2, 2, 1) ((edgesW _).mpr (by rw [f5]; exact .inr (.inr (.inr (.inr (.inr (.inr (.inr (.inr (.inl rfl)))))))))) rfl f5) (by grind) (fun t ht => ht) (fun e he hy => ?_) (fun e he hy => ?_)
      · rcases (edgesW e).mp he with rfl | rfl | rfl | rfl | rfl | rfl | rfl | rfl | rfl | rfl <;> simp only at hy ⊢ <;> grind
      · rcases (edgesW e).mp he with rfl | rfl | rfl | rfl | rfl | rfl | rfl | rfl | rfl | rfl <;> simp only at hy ⊢ <;> grind
    · refine comp_chain ((lk (b := 1) (0, 1, 1, 2) ((edgesW _).mpr (by rw [f3]; exact .inr (.inr (.inr (.inr (.inr (.inl rfl))))))) rfl f3).app (lk (1, 2, 2, 1) ((edgesW _).mpr (by rw [f5]; exact .inr (.inr (.inr (.inr (.inr (.inr (.inr (.inr (.inr rfl)))))))))) rfl f5)) (by grind) (fun t ht => ht) (fun e he hy => ?_) (fun e he hy => ?_)
      · rcases (edgesW e).mp he with rfl | rfl | rfl | rfl | rfl | rfl | rfl | rfl | rfl | rfl <;> simp only at hy ⊢ <;> grind
      · rcases (edgesW e).mp he with rfl | rfl | rfl | rfl | rfl | rfl | rfl | rfl | rfl | rfl <;> simp only at hy ⊢ <;> grind
  · have m : ∀ u, u ∈ linesW ↔ u = (0, 0, 3) ∨ u = (1, 0, 2) ∨ u = (2, 1, 3) ∨ u = (3, 0, 3) := fun u => by unfold linesW; simp
    rcases (edgesW e).mp he with rfl | rfl | rfl | rfl | rfl | rfl | rfl | rfl | rfl | rfl
    · exact ⟨_, (m _).mpr (.inl rfl), rfl, by grind, by grind⟩
    · exact ⟨_, (m _).mpr (.inr (.inl rfl)), rfl, by grind, by grind⟩
    · exact ⟨_, (m _).mpr (.inl rfl), rfl, by grind, by grind⟩
    · exact ⟨_, (m _).mpr (.inr (.inr (.inl rfl))), rfl, by grind, by grind⟩
    · exact ⟨_, (m _).mpr (.inr (.inl rfl)), rfl, by grind, by grind⟩
    · exact ⟨_, (m _).mpr (.inr (.inr (.inr rfl))), rfl, by grind, by grind⟩
    · exact ⟨_, (m _).mpr (.inr (.inl rfl)), rfl, by grind, by grind⟩
    · exact ⟨_, (m _).mpr (.inr (.inr (.inl rfl))), rfl, by grind, by grind⟩
    · exact ⟨_, (m _).mpr (.inr (.inr (.inl rfl))), rfl, by grind, by grind⟩
    · exact ⟨_, (m _).mpr (.inr (.inr (.inr rfl))), rfl, by grind, by grind⟩

def revD : PyData → Option R
  | .list ds => some (true, .list ds.reverse)
  | .tuple ds => some (false, .tuple ds.reverse)
  | _ => none
theorem q_rev {x : E} {b : Bool} {ρ : Sl} : evE (.rev x) b ρ = (evE x true ρ).bind fun r => revD r.2 := by
  rw [evE]; congr 1
theorem ix_getD {l : List Nat} {k : Nat} (h : k < l.length) : evIx (.list (l.map N)) (.int (k : Int)) = some (false, .int (l.getD k 0 : Nat)) := by
  rw [ix_draw h, List.getD_eq_getElem?_getD, List.getElem?_eq_getElem h]; rfl
theorem fitW [NSq 2] : Fit wheelL (0, 0, 3, 3) := by
  obtain ⟨l1, l2, l3⟩ := lt2
  obtain ⟨a1, a2, a3, a4, a5, a6, a7⟩ := num2
  have p2 : (0 : Q 2) < 2 := by grind
  have h := fit_wheel (x := (0 : Q 2)) (y := 0) (w := 3) (h := 3) (a := 1) (b := 1) (c := 2) (e := 2) (i := 1) (j := 1) l1 l1 p2 p2 l1 l1 a5 a5 a6 a6
  rw [a1, a2] at h
  refine h.perm ?_
  unfold wheelL
  refine .cons _ (.cons _ ?_)
  exact List.perm_append_comm (l₁ := [((0, 1, 1, 2) : Tl 2), (1, 1, 1, 1)]) (l₂ := [(1, 2, 2, 1)])
theorem okW [NSq 2] : OkT 8 wheelL := fun t ht => by
  have z : ∀ n : Nat, n < 256 → Sz 8 (((n : Nat) : Int) : Q 2) := fun n hn => natQ_sz hn (by decide)
  have z0 : Sz 8 (0 : Q 2) := z 0 (by decide)
  have z1 : Sz 8 (1 : Q 2) := z 1 (by decide)
  have z2 : Sz 8 (2 : Q 2) := z 2 (by decide)
  refine ⟨?_, fitW.pos t ht⟩
  unfold wheelL at ht
  simp only [List.mem_cons, List.not_mem_nil, or_false] at ht
  rcases ht with rfl | rfl | rfl | rfl | rfl
  · exact ⟨z0, z0, z2, z1⟩
  · exact ⟨z2, z0, z1, z2⟩
  · exact ⟨z0, z1, z1, z2⟩
  · exact ⟨z1, z1, z1, z1⟩
  · exact ⟨z1, z2, z2, z1⟩
theorem r0 : PyData.tuple [.int 0, .int 0, .int 1] = L (0 : Q 2) := L_int (d := 2) 0
theorem r1 : PyData.tuple [.int 1, .int 0, .int 1] = L (1 : Q 2) := L_int (d := 2) 1
theorem r2 : PyData.tuple [.int 2, .int 0, .int 1] = L (2 : Q 2) := L_int (d := 2) 2
theorem r3 : PyData.tuple [.int 3, .int 0, .int 1] = L (3 : Q 2) := L_int (d := 2) 3
def sqL : List (Tl 2) := [(0, 0, 1, 1)]
def linesS : List (Ln 2) := [(0, 0, 1), (1, 0, 1)]
theorem okS [NSq 2] : OkT 8 sqL := fun t ht => by
  obtain ⟨l1, l2, l3⟩ := lt2
  have z : ∀ n : Nat, n < 256 → Sz 8 (((n : Nat) : Int) : Q 2) := fun n hn => natQ_sz hn (by decide)
  unfold sqL at ht
  rw [List.mem_singleton.mp ht]
  exact ⟨⟨z 0 (by decide), z 0 (by decide), z 1 (by decide), z 1 (by decide)⟩, l1, l1⟩
theorem isS [NSq 2] : IsLines (edges sqL) linesS := by
  obtain ⟨l1, l2, l3⟩ := lt2
  obtain ⟨a1, a2, a3, a4, a5, a6, a7⟩ := num2
  have em : ∀ e : Ed 2, e ∈ edges sqL ↔ e = (0, 0, 1) ∨ e = (0, 1, 1) := fun e => by
    have h : edges sqL = [(0, 0, 1), (0, 1, 1)] := by
      show [((0, 0, 0 + 1) : Ed 2), (0, 0 + 1, 0 + 1)] = _
      rw [a2]
    rw [h]
    simp only [List.mem_cons, List.not_mem_nil, or_false]
  have f1 : fr ((0, 0, 1, 1) : Tl 2) = 1 := a2
  refine ⟨?_, fun u hu => ?_, fun e he => ?_⟩
  · unfold linesS
    refine List.pairwise_cons.mpr ⟨fun v hv => ?_, List.pairwise_singleton _ _⟩
    rw [List.mem_singleton.mp hv]
    left
    show (0 : Q 2) < 1
    exact l1
  · unfold linesS at hu
    simp only [List.mem_cons, List.not_mem_nil, or_false] at hu
    rcases hu with rfl | rfl
    · refine comp_chain (P := fun t => ((fx t, (0 : Q 2), fr t) : Ed 2) ∈ edges sqL) (.link (t := (0, 0, 1, 1)) ((em _).mpr (by rw [f1]; exact .inl rfl)) rfl f1) l1 (fun t ht => ht) (fun e he hy => ?_) (fun e he hy => ?_)
      · rcases (em e).mp he with rfl | rfl <;> simp only at hy ⊢ <;> grind
      · rcases (em e).mp he with rfl | rfl <;> simp only at hy ⊢ <;> grind
    · refine comp_chain (P := fun t => ((fx t, (1 : Q 2), fr t) : Ed 2) ∈ edges sqL) (.link (t := (0, 0, 1, 1)) ((em _).mpr (by rw [f1]; exact .inr rfl)) rfl f1) l1 (fun t ht => ht) (fun e he hy => ?_) (fun e he hy => ?_)
      · rcases (em e).mp he with rfl | rfl <;> simp only at hy ⊢ <;> grind
      · rcases (em e).mp he with rfl | rfl <;> simp only at hy ⊢ <;> grind
  · have m : ∀ u, u ∈ linesS ↔ u = (0, 0, 1) ∨ u = (1, 0, 1) := fun u => by unfold linesS; simp
    rcases (em e).mp he with rfl | rfl
    · exact ⟨_, (m _).mpr (.inl rfl), rfl, by grind, by grind⟩
    · exact ⟨_, (m _).mpr (.inr rfl), rfl, by grind, by grind⟩
theorem d6 {d : Nat} : Dn 12 96 ((6 : Int) : Q d) := by
  have := dn_mk (d := d) (p := 6) (q := 0) (s := 1) (k := 12) (P := 8) (by decide) (by decide) (by decide)
  have e : mkQ d 6 0 ((1 : Nat) : Int) = ((6 : Int) : Q d) := mkQ_of (by decide) (by show ((6 : Int) : Rat) * ((1 : Int) : Rat) = _; decide +kernel) (by show (0 : Rat) * ((1 : Int) : Rat) = _; decide +kernel)
  rw [e] at this
  exact this
theorem p6 {d : Nat} [NSq d] : (0 : Q d) < ((6 : Int) : Q d) := nat_pos (n := 6) (by decide)
end K83

set_option Elab.async false
set_option linter.all false
set_option maxRecDepth 100000
set_option maxHeartbeats 4000000
namespace K83
open PySem L2 PV Qu LL
open Classical
variable {d : Nat}
theorem sum_loop {S B n k : Nat} {s0 : Option R} (h0 : 0 < S) (h1 : S < 2 ^ k) (h2 : n * B < 2 ^ k) (hk : k ≤ 4000) : ∀ (l : List (Q d)) (acc : Q d) (m : Nat) (s2 : Option R), (∀ x ∈ l, Dn S B x) → Dn S (m * B) acc → m + l.length ≤ n →
    ∃ s2', forGo (.nm 2) (blk FUEL ib__law_sum_1) (l.map L) [s0, sQ acc, s2] = some (.nx [s0, sQ (acc + qs l), s2'])
  | [], acc, m, s2, _, _, _ => ⟨s2, by rw [show acc + qs [] = acc by show acc + 0 = acc; grind]; rfl⟩
  | x :: l, acc, m, s2, hl, ha, hm => by
    rw [List.length_cons] at hm
    have hx := hl x List.mem_cons_self
    have b1 : m * B < 2 ^ k := Nat.lt_of_le_of_lt (Nat.mul_le_mul_right B (show m ≤ n by omega)) h2
    have b2 : B < 2 ^ k := by
      have := Nat.mul_le_mul_right B (show 1 ≤ n by omega)
      omega
    have e1 := law_plus_is (ha.sz h0 h1 b1) (hx.sz h0 h1 b2) (by omega)
    have hs : Dn S ((m + 1) * B) (acc + x) := by rw [Nat.add_mul, Nat.one_mul]; exact ha.add hx
    obtain ⟨s2', ih⟩ := sum_loop h0 h1 h2 hk l (acc + x) (m + 1) (sQ x) (fun y hy => hl y (List.mem_cons_of_mem _ hy)) hs (by omega)
    refine ⟨s2', ?_⟩
    rw [List.map_cons, fr_nx (ρ1 := [s0, sQ acc, sQ x]) (ρ2 := [s0, sQ (acc + x), sQ x]) rfl ?_]
    · rw [ih, show acc + x + qs l = acc + qs (x :: l) by show _ = acc + (x + qs l); grind]
    · show evSs FUEL ib__law_sum_1 _ = _
      unfold ib__law_sum_1
      simp only [q_wipeR_1, q_wipeR_2, q_asg_1, q_asg_2, q_asg_3, q_asg_4, q_asg_5, q_asg_6, q_asg_7, q_asgR_1, q_ownedArg_1, q_ownedArgs_1, q_ownedArgs_2, q_itemsOf_1, q_itemsOf_2, q_evE_1, q_evE_2, q_evE_3, q_evE_4, q_evE_5, q_evE_6, q_evE_7, q_evE_8, q_evE_9, q_evE_10, q_evE_11, q_evE_12, q_evE_13, q_evE_14, q_evE_15, q_evE_16, q_evE_17, q_evE_18, q_evE_19, q_evE_20, q_evEs_1, q_evEs_2, q_evP_1, q_evP_2, q_evC_1, q_evC_2, q_evI_1, q_evI_2, q_evRet_1, q_evS_1, q_evS_2, q_evS_3, q_evS_4, q_evS_5, q_evS_6, q_evS_7, q_evS_8, q_evS_9, q_evS_10, q_evS_11, q_evS_12, q_evS_13, q_evS_14, q_evS_15, q_evS_16, q_evSs_1, q_evSs_2, q_oa_0, q_rt_0, q_oa_1, q_rt_1, q_oa_2, q_rt_2, q_oa_3, q_rt_3, q_oa_4, q_rt_4, q_oa_5, q_rt_5, q_oa_6, q_rt_6, q_oa_7, q_rt_7, q_oa_8, q_rt_8, q_oa_9, q_rt_9, q_oa_10, q_rt_10, q_oa_11, q_rt_11, q_oa_12, q_rt_12, q_oa_13, q_rt_13, q_oa_14, q_rt_14, q_oa_15, q_rt_15, q_oa_16, q_rt_16, q_oa_17, q_rt_17, q_oa_18, q_rt_18, q_ar_0, q_ar_1, q_ar_2, asI_i, q_ret, q_bind, q_bindn, q_map, q_mapn, q_evT, q_own, startR, List.getElem?_cons_succ, List.getElem?_cons_zero, List.set_cons_succ, List.set_cons_zero, List.map_cons, List.map_nil, List.replicate, List.length_cons, List.length_nil, List.append_eq, List.nil_append, List.cons_append, Bool.and_true, Bool.true_and, Bool.and_false, Bool.false_and, Bool.not_true, Bool.not_false, if_true, if_false, reduceCtorEq, Nat.reduceSub, Nat.reduceAdd, Nat.reduceLeDiff, Bool.false_eq_true, Bool.or_false, Bool.false_or, ite_true, ite_false, lenOk_0, lenOk_1, lenOk_2, lenOk_3, lenOk_4, lenOk_5, lenOk_6, lenOk_7, lenOk_8, i_add, i_sub, i_neg, i_asI, N_int, i_inti, i_intb, decide_true, decide_false, e1]
theorem law_sum_is {S B k : Nat} {l : List (Q d)} (h0 : 0 < S) (h1 : S < 2 ^ k) (h2 : l.length * B < 2 ^ k) (hk : k ≤ 4000) (hl : ∀ x ∈ l, Dn S B x) : f__law_sum [.list (l.map L)] = some (false, L (qs l)) := by
  have w0 := whole_is (d := d) 0
  have z : ((0 : Int) : Q d) = 0 := rfl
  rw [z] at w0
  obtain ⟨s2', e⟩ := sum_loop (s0 := some (false, .list (l.map L))) h0 h1 h2 hk l 0 0 none hl (by rw [Nat.zero_mul]; exact Dn.zero) (by omega)
  rw [show (0 : Q d) + qs l = qs l by grind] at e
  have it : itemsOf (.list (l.map L)) = some (l.map L) := rfl
  unfold f__law_sum evDef ir__law_sum
  simp only [q_wipeR_1, q_wipeR_2, q_asg_1, q_asg_2, q_asg_3, q_asg_4, q_asg_5, q_asg_6, q_asg_7, q_asgR_1, q_ownedArg_1, q_ownedArgs_1, q_ownedArgs_2, q_itemsOf_1, q_itemsOf_2, q_evE_1, q_evE_2, q_evE_3, q_evE_4, q_evE_5, q_evE_6, q_evE_7, q_evE_8, q_evE_9, q_evE_10, q_evE_11, q_evE_12, q_evE_13, q_evE_14, q_evE_15, q_evE_16, q_evE_17, q_evE_18, q_evE_19, q_evE_20, q_evEs_1, q_evEs_2, q_evP_1, q_evP_2, q_evC_1, q_evC_2, q_evI_1, q_evI_2, q_evRet_1, q_evS_1, q_evS_2, q_evS_3, q_evS_4, q_evS_5, q_evS_6, q_evS_7, q_evS_8, q_evS_9, q_evS_10, q_evS_11, q_evS_12, q_evS_13, q_evS_14, q_evS_15, q_evS_16, q_evSs_1, q_evSs_2, q_oa_0, q_rt_0, q_oa_1, q_rt_1, q_oa_2, q_rt_2, q_oa_3, q_rt_3, q_oa_4, q_rt_4, q_oa_5, q_rt_5, q_oa_6, q_rt_6, q_oa_7, q_rt_7, q_oa_8, q_rt_8, q_oa_9, q_rt_9, q_oa_10, q_rt_10, q_oa_11, q_rt_11, q_oa_12, q_rt_12, q_oa_13, q_rt_13, q_oa_14, q_rt_14, q_oa_15, q_rt_15, q_oa_16, q_rt_16, q_oa_17, q_rt_17, q_oa_18, q_rt_18, q_ar_0, q_ar_1, q_ar_2, asI_i, q_ret, q_bind, q_bindn, q_map, q_mapn, q_evT, q_own, startR, List.getElem?_cons_succ, List.getElem?_cons_zero, List.set_cons_succ, List.set_cons_zero, List.map_cons, List.map_nil, List.replicate, List.length_cons, List.length_nil, List.append_eq, List.nil_append, List.cons_append, Bool.and_true, Bool.true_and, Bool.and_false, Bool.false_and, Bool.not_true, Bool.not_false, if_true, if_false, reduceCtorEq, Nat.reduceSub, Nat.reduceAdd, Nat.reduceLeDiff, Bool.false_eq_true, Bool.or_false, Bool.false_or, ite_true, ite_false, lenOk_0, lenOk_1, lenOk_2, lenOk_3, lenOk_4, lenOk_5, lenOk_6, lenOk_7, lenOk_8, i_add, i_sub, i_neg, i_asI, N_int, i_inti, i_intb, decide_true, decide_false, w0, it, e]
theorem range_fm {α β : Type} (h : α → Option β) : ∀ l : List α, (List.range l.length).filterMap (fun j => l[j]?.bind h) = l.filterMap h
  | [] => rfl
  | x :: l => by
    rw [List.length_cons, List.range_succ_eq_map, List.filterMap_cons, List.filterMap_map, List.filterMap_cons]
    have ih := range_fm h l
    have : (List.range l.length).filterMap ((fun j => (x :: l)[j]?.bind h) ∘ Nat.succ) = l.filterMap h := ih
    rw [this]
    rfl
theorem fm_if {α β : Type} (p : α → Bool) (f : α → β) : ∀ l : List α, l.filterMap (fun x => if p x then some (f x) else none) = (l.filter p).map f
  | [] => rfl
  | x :: l => by
    rw [List.filterMap_cons, List.filter_cons, fm_if p f l]
    cases p x <;> rfl
/-- widths at a line -/
theorem widths_comp [NSq d] {T : List (Tl d)} {F : List (Ln d)} {k : Nat} (hn : T.length ≤ 200) :
    (∀ (b : Bool) (s0 s1 s3 s4 s7 s8 s9 s10 s11 s12 s13 s14 : Option R), evE ic__law_decided_1 b [s0, s1, some (false, .list (T.map encTl)), s3, s4, some (false, .list ((netT F T).map encPr)), sI (k : Int), s7, s8, s9, s10, s11, s12, s13, s14] = some (true, .list (((T.filter fun t => decide (ixL F (fx t) (ft t) = k)).map fun t => t.2.2.1).map L))) ∧
    (∀ (b : Bool) (s0 s1 s3 s4 s7 s8 s9 s10 s11 s12 s13 s14 : Option R), evE ic__law_decided_2 b [s0, s1, some (false, .list (T.map encTl)), s3, s4, some (false, .list ((netT F T).map encPr)), sI (k : Int), s7, s8, s9, s10, s11, s12, s13, s14] = some (true, .list (((T.filter fun t => decide (ixL F (fx t) (fy t) = k)).map fun t => t.2.2.1).map L))) := by
  have hlen : evBI .len [.list (T.map encTl)] = some (false, .int (T.length : Nat)) := len_mapA T
  have hr : evRng [.int (T.length : Nat)] = some ((List.range T.length).map N) := n_rng1 (n := T.length) (by omega)
  have nl : (netT F T).length = T.length := by unfold netT; rw [List.length_map]
  refine ⟨fun b s0 s1 s3 s4 s7 s8 s9 s10 s11 s12 s13 s14 => ?_, fun b s0 s1 s3 s4 s7 s8 s9 s10 s11 s12 s13 s14 => ?_⟩
  · unfold ic__law_decided_1
    simp only [q_wipeR_1, q_wipeR_2, q_asg_1, q_asg_2, q_asg_3, q_asg_4, q_asg_5, q_asg_6, q_asg_7, q_asgR_1, q_ownedArg_1, q_ownedArgs_1, q_ownedArgs_2, q_itemsOf_1, q_itemsOf_2, q_evE_1, q_evE_2, q_evE_3, q_evE_4, q_evE_5, q_evE_6, q_evE_7, q_evE_8, q_evE_9, q_evE_10, q_evE_11, q_evE_12, q_evE_13, q_evE_14, q_evE_15, q_evE_16, q_evE_17, q_evE_18, q_evE_19, q_evE_20, q_evEs_1, q_evEs_2, q_evP_1, q_evP_2, q_evC_1, q_evC_2, q_evI_1, q_evI_2, q_evRet_1, q_evS_1, q_evS_2, q_evS_3, q_evS_4, q_evS_5, q_evS_6, q_evS_7, q_evS_8, q_evS_9, q_evS_10, q_evS_11, q_evS_12, q_evS_13, q_evS_14, q_evS_15, q_evS_16, q_evSs_1, q_evSs_2, q_oa_0, q_rt_0, q_oa_1, q_rt_1, q_oa_2, q_rt_2, q_oa_3, q_rt_3, q_oa_4, q_rt_4, q_oa_5, q_rt_5, q_oa_6, q_rt_6, q_oa_7, q_rt_7, q_oa_8, q_rt_8, q_oa_9, q_rt_9, q_oa_10, q_rt_10, q_oa_11, q_rt_11, q_oa_12, q_rt_12, q_oa_13, q_rt_13, q_oa_14, q_rt_14, q_oa_15, q_rt_15, q_oa_16, q_rt_16, q_oa_17, q_rt_17, q_oa_18, q_rt_18, q_ar_0, q_ar_1, q_ar_2, asI_i, q_ret, q_bind, q_bindn, q_map, q_mapn, q_evT, q_own, startR, List.getElem?_cons_succ, List.getElem?_cons_zero, List.set_cons_succ, List.set_cons_zero, List.map_cons, List.map_nil, List.replicate, List.length_cons, List.length_nil, List.append_eq, List.nil_append, List.cons_append, Bool.and_true, Bool.true_and, Bool.and_false, Bool.false_and, Bool.not_true, Bool.not_false, if_true, if_false, reduceCtorEq, Nat.reduceSub, Nat.reduceAdd, Nat.reduceLeDiff, Bool.false_eq_true, Bool.or_false, Bool.false_or, ite_true, ite_false, lenOk_0, lenOk_1, lenOk_2, lenOk_3, lenOk_4, lenOk_5, lenOk_6, lenOk_7, lenOk_8, i_add, i_sub, i_neg, i_asI, N_int, i_inti, i_intb, decide_true, decide_false, hlen, hr]
    rw [compGo_map (enc := N) (en2 := L) (fun j : Nat => (T[j]?).bind fun t => if decide (ixL F (fx t) (ft t) = k) = true then some t.2.2.1 else none), range_fm, fm_if]
    · rfl
    intro j hj
    rw [List.mem_range] at hj
    have i1 := ix_mapA (en := encPr) (l := netT F T) (k := j) (by omega)
    have i2 := ix_mapA (en := encTl (d := d)) (l := T) (k := j) hj
    have e : (netT F T)[j]'(by omega) = (ixL F (fx T[j]) (fy T[j]), ixL F (fx T[j]) (ft T[j])) := by unfold netT; rw [List.getElem_map]
    have i3 : evIx (encPr (ixL F (fx T[j]) (fy T[j]), ixL F (fx T[j]) (ft T[j]))) (.int 1) = some (false, .int ((ixL F (fx T[j]) (ft T[j]) : Nat) : Int)) := Eq.trans rfl (Eq.refl _)
    rw [e] at i1
    rw [List.getElem?_eq_getElem hj]
    generalize T[j] = t at *
    show _ = some (Option.map L (if decide (ixL F (fx t) (ft t) = k) = true then some t.2.2.1 else none))
    by_cases c : ixL F (fx t) (ft t) = k
    · have c2 : decide (((ixL F (fx t) (ft t) : Nat) : Int) = (k : Int)) = true := decide_eq_true (by omega)
      rw [if_pos (decide_eq_true c)]
      simp only [q_wipeR_1, q_wipeR_2, q_asg_1, q_asg_2, q_asg_3, q_asg_4, q_asg_5, q_asg_6, q_asg_7, q_asgR_1, q_ownedArg_1, q_ownedArgs_1, q_ownedArgs_2, q_itemsOf_1, q_itemsOf_2, q_evE_1, q_evE_2, q_evE_3, q_evE_4, q_evE_5, q_evE_6, q_evE_7, q_evE_8, q_evE_9, q_evE_10, q_evE_11, q_evE_12, q_evE_13, q_evE_14, q_evE_15, q_evE_16, q_evE_17, q_evE_18, q_evE_19, q_evE_20, q_evEs_1, q_evEs_2, q_evP_1, q_evP_2, q_evC_1, q_evC_2, q_evI_1, q_evI_2, q_evRet_1, q_evS_1, q_evS_2, q_evS_3, q_evS_4, q_evS_5, q_evS_6, q_evS_7, q_evS_8, q_evS_9, q_evS_10, q_evS_11, q_evS_12, q_evS_13, q_evS_14, q_evS_15, q_evS_16, q_evSs_1, q_evSs_2, q_oa_0, q_rt_0, q_oa_1, q_rt_1, q_oa_2, q_rt_2, q_oa_3, q_rt_3, q_oa_4, q_rt_4, q_oa_5, q_rt_5, q_oa_6, q_rt_6, q_oa_7, q_rt_7, q_oa_8, q_rt_8, q_oa_9, q_rt_9, q_oa_10, q_rt_10, q_oa_11, q_rt_11, q_oa_12, q_rt_12, q_oa_13, q_rt_13, q_oa_14, q_rt_14, q_oa_15, q_rt_15, q_oa_16, q_rt_16, q_oa_17, q_rt_17, q_oa_18, q_rt_18, q_ar_0, q_ar_1, q_ar_2, asI_i, q_ret, q_bind, q_bindn, q_map, q_mapn, q_evT, q_own, startR, List.getElem?_cons_succ, List.getElem?_cons_zero, List.set_cons_succ, List.set_cons_zero, List.map_cons, List.map_nil, List.replicate, List.length_cons, List.length_nil, List.append_eq, List.nil_append, List.cons_append, Bool.and_true, Bool.true_and, Bool.and_false, Bool.false_and, Bool.not_true, Bool.not_false, if_true, if_false, reduceCtorEq, Nat.reduceSub, Nat.reduceAdd, Nat.reduceLeDiff, Bool.false_eq_true, Bool.or_false, Bool.false_or, ite_true, ite_false, lenOk_0, lenOk_1, lenOk_2, lenOk_3, lenOk_4, lenOk_5, lenOk_6, lenOk_7, lenOk_8, i_add, i_sub, i_neg, i_asI, N_int, i_inti, i_intb, decide_true, decide_false, i1, i3, i_eq, c2, i2, ixT2]
    · have c2 : decide (((ixL F (fx t) (ft t) : Nat) : Int) = (k : Int)) = false := decide_eq_false (by omega)
      rw [if_neg (fun h => c (of_decide_eq_true h))]
      simp only [q_wipeR_1, q_wipeR_2, q_asg_1, q_asg_2, q_asg_3, q_asg_4, q_asg_5, q_asg_6, q_asg_7, q_asgR_1, q_ownedArg_1, q_ownedArgs_1, q_ownedArgs_2, q_itemsOf_1, q_itemsOf_2, q_evE_1, q_evE_2, q_evE_3, q_evE_4, q_evE_5, q_evE_6, q_evE_7, q_evE_8, q_evE_9, q_evE_10, q_evE_11, q_evE_12, q_evE_13, q_evE_14, q_evE_15, q_evE_16, q_evE_17, q_evE_18, q_evE_19, q_evE_20, q_evEs_1, q_evEs_2, q_evP_1, q_evP_2, q_evC_1, q_evC_2, q_evI_1, q_evI_2, q_evRet_1, q_evS_1, q_evS_2, q_evS_3, q_evS_4, q_evS_5, q_evS_6, q_evS_7, q_evS_8, q_evS_9, q_evS_10, q_evS_11, q_evS_12, q_evS_13, q_evS_14, q_evS_15, q_evS_16, q_evSs_1, q_evSs_2, q_oa_0, q_rt_0, q_oa_1, q_rt_1, q_oa_2, q_rt_2, q_oa_3, q_rt_3, q_oa_4, q_rt_4, q_oa_5, q_rt_5, q_oa_6, q_rt_6, q_oa_7, q_rt_7, q_oa_8, q_rt_8, q_oa_9, q_rt_9, q_oa_10, q_rt_10, q_oa_11, q_rt_11, q_oa_12, q_rt_12, q_oa_13, q_rt_13, q_oa_14, q_rt_14, q_oa_15, q_rt_15, q_oa_16, q_rt_16, q_oa_17, q_rt_17, q_oa_18, q_rt_18, q_ar_0, q_ar_1, q_ar_2, asI_i, q_ret, q_bind, q_bindn, q_map, q_mapn, q_evT, q_own, startR, List.getElem?_cons_succ, List.getElem?_cons_zero, List.set_cons_succ, List.set_cons_zero, List.map_cons, List.map_nil, List.replicate, List.length_cons, List.length_nil, List.append_eq, List.nil_append, List.cons_append, Bool.and_true, Bool.true_and, Bool.and_false, Bool.false_and, Bool.not_true, Bool.not_false, if_true, if_false, reduceCtorEq, Nat.reduceSub, Nat.reduceAdd, Nat.reduceLeDiff, Bool.false_eq_true, Bool.or_false, Bool.false_or, ite_true, ite_false, lenOk_0, lenOk_1, lenOk_2, lenOk_3, lenOk_4, lenOk_5, lenOk_6, lenOk_7, lenOk_8, i_add, i_sub, i_neg, i_asI, N_int, i_inti, i_intb, decide_true, decide_false, i1, i3, i_eq, c2]
  · unfold ic__law_decided_2
    simp only [q_wipeR_1, q_wipeR_2, q_asg_1, q_asg_2, q_asg_3, q_asg_4, q_asg_5, q_asg_6, q_asg_7, q_asgR_1, q_ownedArg_1, q_ownedArgs_1, q_ownedArgs_2, q_itemsOf_1, q_itemsOf_2, q_evE_1, q_evE_2, q_evE_3, q_evE_4, q_evE_5, q_evE_6, q_evE_7, q_evE_8, q_evE_9, q_evE_10, q_evE_11, q_evE_12, q_evE_13, q_evE_14, q_evE_15, q_evE_16, q_evE_17, q_evE_18, q_evE_19, q_evE_20, q_evEs_1, q_evEs_2, q_evP_1, q_evP_2, q_evC_1, q_evC_2, q_evI_1, q_evI_2, q_evRet_1, q_evS_1, q_evS_2, q_evS_3, q_evS_4, q_evS_5, q_evS_6, q_evS_7, q_evS_8, q_evS_9, q_evS_10, q_evS_11, q_evS_12, q_evS_13, q_evS_14, q_evS_15, q_evS_16, q_evSs_1, q_evSs_2, q_oa_0, q_rt_0, q_oa_1, q_rt_1, q_oa_2, q_rt_2, q_oa_3, q_rt_3, q_oa_4, q_rt_4, q_oa_5, q_rt_5, q_oa_6, q_rt_6, q_oa_7, q_rt_7, q_oa_8, q_rt_8, q_oa_9, q_rt_9, q_oa_10, q_rt_10, q_oa_11, q_rt_11, q_oa_12, q_rt_12, q_oa_13, q_rt_13, q_oa_14, q_rt_14, q_oa_15, q_rt_15, q_oa_16, q_rt_16, q_oa_17, q_rt_17, q_oa_18, q_rt_18, q_ar_0, q_ar_1, q_ar_2, asI_i, q_ret, q_bind, q_bindn, q_map, q_mapn, q_evT, q_own, startR, List.getElem?_cons_succ, List.getElem?_cons_zero, List.set_cons_succ, List.set_cons_zero, List.map_cons, List.map_nil, List.replicate, List.length_cons, List.length_nil, List.append_eq, List.nil_append, List.cons_append, Bool.and_true, Bool.true_and, Bool.and_false, Bool.false_and, Bool.not_true, Bool.not_false, if_true, if_false, reduceCtorEq, Nat.reduceSub, Nat.reduceAdd, Nat.reduceLeDiff, Bool.false_eq_true, Bool.or_false, Bool.false_or, ite_true, ite_false, lenOk_0, lenOk_1, lenOk_2, lenOk_3, lenOk_4, lenOk_5, lenOk_6, lenOk_7, lenOk_8, i_add, i_sub, i_neg, i_asI, N_int, i_inti, i_intb, decide_true, decide_false, hlen, hr]
    rw [compGo_map (enc := N) (en2 := L) (fun j : Nat => (T[j]?).bind fun t => if decide (ixL F (fx t) (fy t) = k) = true then some t.2.2.1 else none), range_fm, fm_if]
    · rfl
    intro j hj
    rw [List.mem_range] at hj
    have i1 := ix_mapA (en := encPr) (l := netT F T) (k := j) (by omega)
    have i2 := ix_mapA (en := encTl (d := d)) (l := T) (k := j) hj
    have e : (netT F T)[j]'(by omega) = (ixL F (fx T[j]) (fy T[j]), ixL F (fx T[j]) (ft T[j])) := by unfold netT; rw [List.getElem_map]
    have i3 : evIx (encPr (ixL F (fx T[j]) (fy T[j]), ixL F (fx T[j]) (ft T[j]))) (.int 0) = some (false, .int ((ixL F (fx T[j]) (fy T[j]) : Nat) : Int)) := Eq.trans rfl (Eq.refl _)
    rw [e] at i1
    rw [List.getElem?_eq_getElem hj]
    generalize T[j] = t at *
    show _ = some (Option.map L (if decide (ixL F (fx t) (fy t) = k) = true then some t.2.2.1 else none))
    by_cases c : ixL F (fx t) (fy t) = k
    · have c2 : decide (((ixL F (fx t) (fy t) : Nat) : Int) = (k : Int)) = true := decide_eq_true (by omega)
      rw [if_pos (decide_eq_true c)]
      simp only [q_wipeR_1, q_wipeR_2, q_asg_1, q_asg_2, q_asg_3, q_asg_4, q_asg_5, q_asg_6, q_asg_7, q_asgR_1, q_ownedArg_1, q_ownedArgs_1, q_ownedArgs_2, q_itemsOf_1, q_itemsOf_2, q_evE_1, q_evE_2, q_evE_3, q_evE_4, q_evE_5, q_evE_6, q_evE_7, q_evE_8, q_evE_9, q_evE_10, q_evE_11, q_evE_12, q_evE_13, q_evE_14, q_evE_15, q_evE_16, q_evE_17, q_evE_18, q_evE_19, q_evE_20, q_evEs_1, q_evEs_2, q_evP_1, q_evP_2, q_evC_1, q_evC_2, q_evI_1, q_evI_2, q_evRet_1, q_evS_1, q_evS_2, q_evS_3, q_evS_4, q_evS_5, q_evS_6, q_evS_7, q_evS_8, q_evS_9, q_evS_10, q_evS_11, q_evS_12, q_evS_13, q_evS_14, q_evS_15, q_evS_16, q_evSs_1, q_evSs_2, q_oa_0, q_rt_0, q_oa_1, q_rt_1, q_oa_2, q_rt_2, q_oa_3, q_rt_3, q_oa_4, q_rt_4, q_oa_5, q_rt_5, q_oa_6, q_rt_6, q_oa_7, q_rt_7, q_oa_8, q_rt_8, q_oa_9, q_rt_9, q_oa_10, q_rt_10, q_oa_11, q_rt_11, q_oa_12, q_rt_12, q_oa_13, q_rt_13, q_oa_14, q_rt_14, q_oa_15, q_rt_15, q_oa_16, q_rt_16, q_oa_17, q_rt_17, q_oa_18, q_rt_18, q_ar_0, q_ar_1, q_ar_2, asI_i, q_ret, q_bind, q_bindn, q_map, q_mapn, q_evT, q_own, startR, List.getElem?_cons_succ, List.getElem?_cons_zero, List.set_cons_succ, List.set_cons_zero, List.map_cons, List.map_nil, List.replicate, List.length_cons, List.length_nil, List.append_eq, List.nil_append, List.cons_append, Bool.and_true, Bool.true_and, Bool.and_false, Bool.false_and, Bool.not_true, Bool.not_false, if_true, if_false, reduceCtorEq, Nat.reduceSub, Nat.reduceAdd, Nat.reduceLeDiff, Bool.false_eq_true, Bool.or_false, Bool.false_or, ite_true, ite_false, lenOk_0, lenOk_1, lenOk_2, lenOk_3, lenOk_4, lenOk_5, lenOk_6, lenOk_7, lenOk_8, i_add, i_sub, i_neg, i_asI, N_int, i_inti, i_intb, decide_true, decide_false, i1, i3, i_eq, c2, i2, ixT2]
    · have c2 : decide (((ixL F (fx t) (fy t) : Nat) : Int) = (k : Int)) = false := decide_eq_false (by omega)
      rw [if_neg (fun h => c (of_decide_eq_true h))]
      simp only [q_wipeR_1, q_wipeR_2, q_asg_1, q_asg_2, q_asg_3, q_asg_4, q_asg_5, q_asg_6, q_asg_7, q_asgR_1, q_ownedArg_1, q_ownedArgs_1, q_ownedArgs_2, q_itemsOf_1, q_itemsOf_2, q_evE_1, q_evE_2, q_evE_3, q_evE_4, q_evE_5, q_evE_6, q_evE_7, q_evE_8, q_evE_9, q_evE_10, q_evE_11, q_evE_12, q_evE_13, q_evE_14, q_evE_15, q_evE_16, q_evE_17, q_evE_18, q_evE_19, q_evE_20, q_evEs_1, q_evEs_2, q_evP_1, q_evP_2, q_evC_1, q_evC_2, q_evI_1, q_evI_2, q_evRet_1, q_evS_1, q_evS_2, q_evS_3, q_evS_4, q_evS_5, q_evS_6, q_evS_7, q_evS_8, q_evS_9, q_evS_10, q_evS_11, q_evS_12, q_evS_13, q_evS_14, q_evS_15, q_evS_16, q_evSs_1, q_evSs_2, q_oa_0, q_rt_0, q_oa_1, q_rt_1, q_oa_2, q_rt_2, q_oa_3, q_rt_3, q_oa_4, q_rt_4, q_oa_5, q_rt_5, q_oa_6, q_rt_6, q_oa_7, q_rt_7, q_oa_8, q_rt_8, q_oa_9, q_rt_9, q_oa_10, q_rt_10, q_oa_11, q_rt_11, q_oa_12, q_rt_12, q_oa_13, q_rt_13, q_oa_14, q_rt_14, q_oa_15, q_rt_15, q_oa_16, q_rt_16, q_oa_17, q_rt_17, q_oa_18, q_rt_18, q_ar_0, q_ar_1, q_ar_2, asI_i, q_ret, q_bind, q_bindn, q_map, q_mapn, q_evT, q_own, startR, List.getElem?_cons_succ, List.getElem?_cons_zero, List.set_cons_succ, List.set_cons_zero, List.map_cons, List.map_nil, List.replicate, List.length_cons, List.length_nil, List.append_eq, List.nil_append, List.cons_append, Bool.and_true, Bool.true_and, Bool.and_false, Bool.false_and, Bool.not_true, Bool.not_false, if_true, if_false, reduceCtorEq, Nat.reduceSub, Nat.reduceAdd, Nat.reduceLeDiff, Bool.false_eq_true, Bool.or_false, Bool.false_or, ite_true, ite_false, lenOk_0, lenOk_1, lenOk_2, lenOk_3, lenOk_4, lenOk_5, lenOk_6, lenOk_7, lenOk_8, i_add, i_sub, i_neg, i_asI, N_int, i_inti, i_intb, decide_true, decide_false, i1, i3, i_eq, c2]
theorem twins_comp {X : List (Q d)} :
    (∀ (b : Bool) (s0 s1 s2 s3 s4 s5 s6 s7 s9 s10 s11 s12 s13 s14 : Option R), evE ic__law_decided_3 b [s0, s1, s2, s3, s4, s5, s6, s7, some (false, .list (X.map L)), s9, s10, s11, s12, s13, s14] = some (true, .list ((X.map Q.conj).map L))) ∧
    (∀ (b : Bool) (s0 s1 s2 s3 s4 s5 s6 s7 s8 s9 s11 s12 s13 s14 : Option R), evE ic__law_decided_4 b [s0, s1, s2, s3, s4, s5, s6, s7, s8, s9, some (false, .list (X.map L)), s11, s12, s13, s14] = some (true, .list ((X.map Q.conj).map L))) := by
  refine ⟨fun b s0 s1 s2 s3 s4 s5 s6 s7 s9 s10 s11 s12 s13 s14 => ?_, fun b s0 s1 s2 s3 s4 s5 s6 s7 s8 s9 s11 s12 s13 s14 => ?_⟩
  · unfold ic__law_decided_3
    simp only [q_wipeR_1, q_wipeR_2, q_asg_1, q_asg_2, q_asg_3, q_asg_4, q_asg_5, q_asg_6, q_asg_7, q_asgR_1, q_ownedArg_1, q_ownedArgs_1, q_ownedArgs_2, q_itemsOf_1, q_itemsOf_2, q_evE_1, q_evE_2, q_evE_3, q_evE_4, q_evE_5, q_evE_6, q_evE_7, q_evE_8, q_evE_9, q_evE_10, q_evE_11, q_evE_12, q_evE_13, q_evE_14, q_evE_15, q_evE_16, q_evE_17, q_evE_18, q_evE_19, q_evE_20, q_evEs_1, q_evEs_2, q_evP_1, q_evP_2, q_evC_1, q_evC_2, q_evI_1, q_evI_2, q_evRet_1, q_evS_1, q_evS_2, q_evS_3, q_evS_4, q_evS_5, q_evS_6, q_evS_7, q_evS_8, q_evS_9, q_evS_10, q_evS_11, q_evS_12, q_evS_13, q_evS_14, q_evS_15, q_evS_16, q_evSs_1, q_evSs_2, q_oa_0, q_rt_0, q_oa_1, q_rt_1, q_oa_2, q_rt_2, q_oa_3, q_rt_3, q_oa_4, q_rt_4, q_oa_5, q_rt_5, q_oa_6, q_rt_6, q_oa_7, q_rt_7, q_oa_8, q_rt_8, q_oa_9, q_rt_9, q_oa_10, q_rt_10, q_oa_11, q_rt_11, q_oa_12, q_rt_12, q_oa_13, q_rt_13, q_oa_14, q_rt_14, q_oa_15, q_rt_15, q_oa_16, q_rt_16, q_oa_17, q_rt_17, q_oa_18, q_rt_18, q_ar_0, q_ar_1, q_ar_2, asI_i, q_ret, q_bind, q_bindn, q_map, q_mapn, q_evT, q_own, startR, List.getElem?_cons_succ, List.getElem?_cons_zero, List.set_cons_succ, List.set_cons_zero, List.map_cons, List.map_nil, List.replicate, List.length_cons, List.length_nil, List.append_eq, List.nil_append, List.cons_append, Bool.and_true, Bool.true_and, Bool.and_false, Bool.false_and, Bool.not_true, Bool.not_false, if_true, if_false, reduceCtorEq, Nat.reduceSub, Nat.reduceAdd, Nat.reduceLeDiff, Bool.false_eq_true, Bool.or_false, Bool.false_or, ite_true, ite_false, lenOk_0, lenOk_1, lenOk_2, lenOk_3, lenOk_4, lenOk_5, lenOk_6, lenOk_7, lenOk_8, i_add, i_sub, i_neg, i_asI, N_int, i_inti, i_intb, decide_true, decide_false]
    rw [compGo_map (en2 := L) (fun x : Q d => some x.conj), filterMap_some]
    · rfl
    · intro x hx
      rw [law_twin_is]
      rfl
  · unfold ic__law_decided_4
    simp only [q_wipeR_1, q_wipeR_2, q_asg_1, q_asg_2, q_asg_3, q_asg_4, q_asg_5, q_asg_6, q_asg_7, q_asgR_1, q_ownedArg_1, q_ownedArgs_1, q_ownedArgs_2, q_itemsOf_1, q_itemsOf_2, q_evE_1, q_evE_2, q_evE_3, q_evE_4, q_evE_5, q_evE_6, q_evE_7, q_evE_8, q_evE_9, q_evE_10, q_evE_11, q_evE_12, q_evE_13, q_evE_14, q_evE_15, q_evE_16, q_evE_17, q_evE_18, q_evE_19, q_evE_20, q_evEs_1, q_evEs_2, q_evP_1, q_evP_2, q_evC_1, q_evC_2, q_evI_1, q_evI_2, q_evRet_1, q_evS_1, q_evS_2, q_evS_3, q_evS_4, q_evS_5, q_evS_6, q_evS_7, q_evS_8, q_evS_9, q_evS_10, q_evS_11, q_evS_12, q_evS_13, q_evS_14, q_evS_15, q_evS_16, q_evSs_1, q_evSs_2, q_oa_0, q_rt_0, q_oa_1, q_rt_1, q_oa_2, q_rt_2, q_oa_3, q_rt_3, q_oa_4, q_rt_4, q_oa_5, q_rt_5, q_oa_6, q_rt_6, q_oa_7, q_rt_7, q_oa_8, q_rt_8, q_oa_9, q_rt_9, q_oa_10, q_rt_10, q_oa_11, q_rt_11, q_oa_12, q_rt_12, q_oa_13, q_rt_13, q_oa_14, q_rt_14, q_oa_15, q_rt_15, q_oa_16, q_rt_16, q_oa_17, q_rt_17, q_oa_18, q_rt_18, q_ar_0, q_ar_1, q_ar_2, asI_i, q_ret, q_bind, q_bindn, q_map, q_mapn, q_evT, q_own, startR, List.getElem?_cons_succ, List.getElem?_cons_zero, List.set_cons_succ, List.set_cons_zero, List.map_cons, List.map_nil, List.replicate, List.length_cons, List.length_nil, List.append_eq, List.nil_append, List.cons_append, Bool.and_true, Bool.true_and, Bool.and_false, Bool.false_and, Bool.not_true, Bool.not_false, if_true, if_false, reduceCtorEq, Nat.reduceSub, Nat.reduceAdd, Nat.reduceLeDiff, Bool.false_eq_true, Bool.or_false, Bool.false_or, ite_true, ite_false, lenOk_0, lenOk_1, lenOk_2, lenOk_3, lenOk_4, lenOk_5, lenOk_6, lenOk_7, lenOk_8, i_add, i_sub, i_neg, i_asI, N_int, i_inti, i_intb, decide_true, decide_false]
    rw [compGo_map (en2 := L) (fun x : Q d => some x.conj), filterMap_some]
    · rfl
    · intro x hx
      rw [law_twin_is]
      rfl
end K83

set_option Elab.async false
set_option linter.all false
set_option maxRecDepth 100000
set_option maxHeartbeats 4000000
namespace K83
open PySem L2 PV Qu LL
open Classical
variable {d : Nat}
theorem chain_lt (a b c : Int) (ρ : Sl) (b0 : Bool) (x y z : E) (hx : evE x true ρ = some (false, .int a)) (hy : evE y true ρ = some (false, .int b)) (hz : evE z true ρ = some (false, .int c)) :
    evE (.chain .lt .lt x y z) b0 ρ = some (false, .bool (decide (a < b) && decide (b < c))) := by
  rw [q_evE_6, hx, q_bind, hy, q_bind, i_lt, q_bind]
  by_cases h : a < b
  · rw [decide_eq_true h, Bool.true_and]
    show (evE z true ρ).bind _ = _
    rw [hz, q_bind, i_lt]
    rfl
  · rw [decide_eq_false h, Bool.false_and]
/-- the check of a line -/
theorem line_step [NSq d] {W H : Q d} {T : List (Tl d)} {F : List (Ln d)} {S B i : Nat} {u : Ln d} {s3 s7 s8 s9 s10 s11 s12 s13 s14 : Option R}
    (hS0 : 0 < S) (hS : S < 2 ^ 80) (hB : B < 2 ^ 80) (hT : ∀ t ∈ T, DnT S B t) (h : OkT 80 T) (hs : 0 < W ∧ 0 < H) (hf : Fit T (0, 0, W, H)) (hb : Nb T (0, 0, W, H)) (hj : Dj T) (hn : T.length ≤ 60) (hF : IsLines (edges T) F) (hFn : F.length ≤ 10000) (hu : F[i]? = some u) :
    evSs FUEL ib__law_decided_5 [sI (d : Int), some (false, .tuple [L W, L H]), some (false, .list (T.map encTl)), s3, some (false, .list (F.map encLn)), some (false, .list ((netT F T).map encPr)), sI (i : Int), s7, s8, s9, s10, s11, s12, s13, s14] = some (.nx [sI (d : Int), some (false, .tuple [L W, L H]), some (false, .list (T.map encTl)), s3, some (false, .list (F.map encLn)), some (false, .list ((netT F T).map encPr)), sI (i : Int), sQ (u.2.2 - u.2.1), some (false, .list (((T.filter fun t => decide (ixL F (fx t) (ft t) = i)).map fun t => t.2.2.1).map L)), s9, some (false, .list (((T.filter fun t => decide (ixL F (fx t) (fy t) = i)).map fun t => t.2.2.1).map L)), s11, s12, s13, s14]) := by
  have hi : i < F.length := (List.getElem?_eq_some_iff.mp hu).1
  obtain ⟨z1, z2, z3⟩ := lines_sz h hF u (List.mem_of_getElem? hu)
  have e1 := law_minus_is z3 z2 (by decide)
  have x1 : evIx (.list (F.map encLn)) (.int (i : Int)) = some (false, encLn u) := by
    rw [ix_mapA (en := encLn (d := d)) hi]
    rw [(List.getElem?_eq_some_iff.mp hu).2]
  obtain ⟨c1, c2⟩ := widths_comp (F := F) (k := i) (T := T) (by omega)
  have hlen : evBI .len [.list (F.map encLn)] = some (false, .int (F.length : Nat)) := len_mapA F
  have sm : ∀ p : Tl d → Bool, (∀ x ∈ (T.filter p).map fun t => t.2.2.1, Dn S B x) ∧ ((T.filter p).map fun t => t.2.2.1).length * B < 2 ^ 100 := fun p => ⟨fun x hx => by
    obtain ⟨t, ht, rfl⟩ := List.mem_map.mp hx
    exact (hT t (List.mem_filter.mp ht).1).2.2.1, by
    rw [List.length_map]
    have := List.length_filter_le p T
    have := Nat.mul_le_mul_right B (show (T.filter p).length ≤ 60 by omega)
    omega⟩
  have q1 := law_sum_is hS0 (show S < 2 ^ 100 by omega) (sm fun t => decide (ixL F (fx t) (ft t) = i)).2 (by decide) (sm _).1
  have q2 := law_sum_is hS0 (show S < 2 ^ 100 by omega) (sm fun t => decide (ixL F (fx t) (fy t) = i)).2 (by decide) (sm _).1
  have g1 : 0 < i → qs ((T.filter fun t => decide (ixL F (fx t) (ft t) = i)).map fun t => t.2.2.1) = u.2.2 - u.2.1 := below_sum h hs hf hb hj hF hu
  have g2 : i + 1 < F.length → qs ((T.filter fun t => decide (ixL F (fx t) (fy t) = i)).map fun t => t.2.2.1) = u.2.2 - u.2.1 := above_sum h hs hf hb hj hF hu
  have tw1 := (twins_comp (X := (T.filter fun t => decide (ixL F (fx t) (ft t) = i)).map fun t => t.2.2.1)).1
  have tw2 := (twins_comp (X := (T.filter fun t => decide (ixL F (fx t) (fy t) = i)).map fun t => t.2.2.1)).2
  have sc : ∀ {X : List (Q d)}, (∀ x ∈ X, Dn S B x) ∧ X.length * B < 2 ^ 100 → f__law_sum [.list ((X.map Q.conj).map L)] = some (false, L (qs X).conj) := fun {X} hX => by
    rw [← qs_conj]
    exact law_sum_is hS0 (show S < 2 ^ 100 by omega) (by rw [List.length_map]; exact hX.2) (by decide) fun x hx => by
      obtain ⟨y, hy, rfl⟩ := List.mem_map.mp hx
      exact (hX.1 y hy).conj
  have q3 := sc (sm fun t => decide (ixL F (fx t) (ft t) = i))
  have q4 := sc (sm fun t => decide (ixL F (fx t) (fy t) = i))
  have oa3 : ∀ ρ, ownedArg ρ ic__law_decided_3 = false := fun ρ => Eq.trans rfl (Eq.refl _)
  have oa4 : ∀ ρ, ownedArg ρ ic__law_decided_4 = false := fun ρ => Eq.trans rfl (Eq.refl _)
  generalize (T.filter fun t => decide (ixL F (fx t) (ft t) = i)).map (fun t => t.2.2.1) = X1 at *
  generalize (T.filter fun t => decide (ixL F (fx t) (fy t) = i)).map (fun t => t.2.2.1) = X2 at *
  by_cases k1 : 0 < i
  · have d1 : decide ((0 : Int) < (i : Int)) = true := decide_eq_true (by omega)
    rw [g1 k1] at q1 q3
    by_cases k2 : i + 1 < F.length
    · have d2 : decide ((i : Int) < (F.length : Int) - 1) = true := decide_eq_true (by omega)
      rw [g2 k2] at q2 q4
      unfold ib__law_decided_5
      simp only [q_wipeR_1, q_wipeR_2, q_asg_1, q_asg_2, q_asg_3, q_asg_4, q_asg_5, q_asg_6, q_asg_7, q_asgR_1, q_ownedArg_1, q_ownedArgs_1, q_ownedArgs_2, q_itemsOf_1, q_itemsOf_2, q_evE_1, q_evE_2, q_evE_3, q_evE_4, q_evE_5, q_evE_6, q_evE_7, q_evE_8, q_evE_9, q_evE_10, q_evE_11, q_evE_12, q_evE_13, q_evE_14, q_evE_15, q_evE_16, q_evE_17, q_evE_18, q_evE_19, q_evE_20, q_evEs_1, q_evEs_2, q_evP_1, q_evP_2, q_evC_1, q_evC_2, q_evI_1, q_evI_2, q_evRet_1, q_evS_1, q_evS_2, q_evS_3, q_evS_4, q_evS_5, q_evS_6, q_evS_7, q_evS_8, q_evS_9, q_evS_10, q_evS_11, q_evS_12, q_evS_13, q_evS_14, q_evS_15, q_evS_16, q_evSs_1, q_evSs_2, q_oa_0, q_rt_0, q_oa_1, q_rt_1, q_oa_2, q_rt_2, q_oa_3, q_rt_3, q_oa_4, q_rt_4, q_oa_5, q_rt_5, q_oa_6, q_rt_6, q_oa_7, q_rt_7, q_oa_8, q_rt_8, q_oa_9, q_rt_9, q_oa_10, q_rt_10, q_oa_11, q_rt_11, q_oa_12, q_rt_12, q_oa_13, q_rt_13, q_oa_14, q_rt_14, q_oa_15, q_rt_15, q_oa_16, q_rt_16, q_oa_17, q_rt_17, q_oa_18, q_rt_18, q_ar_0, q_ar_1, q_ar_2, asI_i, q_ret, q_bind, q_bindn, q_map, q_mapn, q_evT, q_own, startR, List.getElem?_cons_succ, List.getElem?_cons_zero, List.set_cons_succ, List.set_cons_zero, List.map_cons, List.map_nil, List.replicate, List.length_cons, List.length_nil, List.append_eq, List.nil_append, List.cons_append, Bool.and_true, Bool.true_and, Bool.and_false, Bool.false_and, Bool.not_true, Bool.not_false, if_true, if_false, reduceCtorEq, Nat.reduceSub, Nat.reduceAdd, Nat.reduceLeDiff, Bool.false_eq_true, Bool.or_false, Bool.false_or, ite_true, ite_false, lenOk_0, lenOk_1, lenOk_2, lenOk_3, lenOk_4, lenOk_5, lenOk_6, lenOk_7, lenOk_8, i_add, i_sub, i_neg, i_asI, N_int, i_inti, i_intb, decide_true, decide_false, x1, ixN1, ixN2, e1, c1, c2, i_gt, i_lt, d1, d2, q1, q2, L_ne, hlen, oa3, oa4, tw1, tw2, q3, q4]
    · have d2 : decide ((i : Int) < (F.length : Int) - 1) = false := decide_eq_false (by omega)
      unfold ib__law_decided_5
      simp only [q_wipeR_1, q_wipeR_2, q_asg_1, q_asg_2, q_asg_3, q_asg_4, q_asg_5, q_asg_6, q_asg_7, q_asgR_1, q_ownedArg_1, q_ownedArgs_1, q_ownedArgs_2, q_itemsOf_1, q_itemsOf_2, q_evE_1, q_evE_2, q_evE_3, q_evE_4, q_evE_5, q_evE_6, q_evE_7, q_evE_8, q_evE_9, q_evE_10, q_evE_11, q_evE_12, q_evE_13, q_evE_14, q_evE_15, q_evE_16, q_evE_17, q_evE_18, q_evE_19, q_evE_20, q_evEs_1, q_evEs_2, q_evP_1, q_evP_2, q_evC_1, q_evC_2, q_evI_1, q_evI_2, q_evRet_1, q_evS_1, q_evS_2, q_evS_3, q_evS_4, q_evS_5, q_evS_6, q_evS_7, q_evS_8, q_evS_9, q_evS_10, q_evS_11, q_evS_12, q_evS_13, q_evS_14, q_evS_15, q_evS_16, q_evSs_1, q_evSs_2, q_oa_0, q_rt_0, q_oa_1, q_rt_1, q_oa_2, q_rt_2, q_oa_3, q_rt_3, q_oa_4, q_rt_4, q_oa_5, q_rt_5, q_oa_6, q_rt_6, q_oa_7, q_rt_7, q_oa_8, q_rt_8, q_oa_9, q_rt_9, q_oa_10, q_rt_10, q_oa_11, q_rt_11, q_oa_12, q_rt_12, q_oa_13, q_rt_13, q_oa_14, q_rt_14, q_oa_15, q_rt_15, q_oa_16, q_rt_16, q_oa_17, q_rt_17, q_oa_18, q_rt_18, q_ar_0, q_ar_1, q_ar_2, asI_i, q_ret, q_bind, q_bindn, q_map, q_mapn, q_evT, q_own, startR, List.getElem?_cons_succ, List.getElem?_cons_zero, List.set_cons_succ, List.set_cons_zero, List.map_cons, List.map_nil, List.replicate, List.length_cons, List.length_nil, List.append_eq, List.nil_append, List.cons_append, Bool.and_true, Bool.true_and, Bool.and_false, Bool.false_and, Bool.not_true, Bool.not_false, if_true, if_false, reduceCtorEq, Nat.reduceSub, Nat.reduceAdd, Nat.reduceLeDiff, Bool.false_eq_true, Bool.or_false, Bool.false_or, ite_true, ite_false, lenOk_0, lenOk_1, lenOk_2, lenOk_3, lenOk_4, lenOk_5, lenOk_6, lenOk_7, lenOk_8, i_add, i_sub, i_neg, i_asI, N_int, i_inti, i_intb, decide_true, decide_false, x1, ixN1, ixN2, e1, c1, c2, i_gt, i_lt, d1, d2, q1, L_ne, hlen]
  · have d1 : decide ((0 : Int) < (i : Int)) = false := decide_eq_false (by omega)
    by_cases k2 : i + 1 < F.length
    · have d2 : decide ((i : Int) < (F.length : Int) - 1) = true := decide_eq_true (by omega)
      rw [g2 k2] at q2 q4
      unfold ib__law_decided_5
      simp only [q_wipeR_1, q_wipeR_2, q_asg_1, q_asg_2, q_asg_3, q_asg_4, q_asg_5, q_asg_6, q_asg_7, q_asgR_1, q_ownedArg_1, q_ownedArgs_1, q_ownedArgs_2, q_itemsOf_1, q_itemsOf_2, q_evE_1, q_evE_2, q_evE_3, q_evE_4, q_evE_5, q_evE_6, q_evE_7, q_evE_8, q_evE_9, q_evE_10, q_evE_11, q_evE_12, q_evE_13, q_evE_14, q_evE_15, q_evE_16, q_evE_17, q_evE_18, q_evE_19, q_evE_20, q_evEs_1, q_evEs_2, q_evP_1, q_evP_2, q_evC_1, q_evC_2, q_evI_1, q_evI_2, q_evRet_1, q_evS_1, q_evS_2, q_evS_3, q_evS_4, q_evS_5, q_evS_6, q_evS_7, q_evS_8, q_evS_9, q_evS_10, q_evS_11, q_evS_12, q_evS_13, q_evS_14, q_evS_15, q_evS_16, q_evSs_1, q_evSs_2, q_oa_0, q_rt_0, q_oa_1, q_rt_1, q_oa_2, q_rt_2, q_oa_3, q_rt_3, q_oa_4, q_rt_4, q_oa_5, q_rt_5, q_oa_6, q_rt_6, q_oa_7, q_rt_7, q_oa_8, q_rt_8, q_oa_9, q_rt_9, q_oa_10, q_rt_10, q_oa_11, q_rt_11, q_oa_12, q_rt_12, q_oa_13, q_rt_13, q_oa_14, q_rt_14, q_oa_15, q_rt_15, q_oa_16, q_rt_16, q_oa_17, q_rt_17, q_oa_18, q_rt_18, q_ar_0, q_ar_1, q_ar_2, asI_i, q_ret, q_bind, q_bindn, q_map, q_mapn, q_evT, q_own, startR, List.getElem?_cons_succ, List.getElem?_cons_zero, List.set_cons_succ, List.set_cons_zero, List.map_cons, List.map_nil, List.replicate, List.length_cons, List.length_nil, List.append_eq, List.nil_append, List.cons_append, Bool.and_true, Bool.true_and, Bool.and_false, Bool.false_and, Bool.not_true, Bool.not_false, if_true, if_false, reduceCtorEq, Nat.reduceSub, Nat.reduceAdd, Nat.reduceLeDiff, Bool.false_eq_true, Bool.or_false, Bool.false_or, ite_true, ite_false, lenOk_0, lenOk_1, lenOk_2, lenOk_3, lenOk_4, lenOk_5, lenOk_6, lenOk_7, lenOk_8, i_add, i_sub, i_neg, i_asI, N_int, i_inti, i_intb, decide_true, decide_false, x1, ixN1, ixN2, e1, c1, c2, i_gt, i_lt, d1, d2, q2, L_ne, hlen]
    · have d2 : decide ((i : Int) < (F.length : Int) - 1) = false := decide_eq_false (by omega)
      unfold ib__law_decided_5
      simp only [q_wipeR_1, q_wipeR_2, q_asg_1, q_asg_2, q_asg_3, q_asg_4, q_asg_5, q_asg_6, q_asg_7, q_asgR_1, q_ownedArg_1, q_ownedArgs_1, q_ownedArgs_2, q_itemsOf_1, q_itemsOf_2, q_evE_1, q_evE_2, q_evE_3, q_evE_4, q_evE_5, q_evE_6, q_evE_7, q_evE_8, q_evE_9, q_evE_10, q_evE_11, q_evE_12, q_evE_13, q_evE_14, q_evE_15, q_evE_16, q_evE_17, q_evE_18, q_evE_19, q_evE_20, q_evEs_1, q_evEs_2, q_evP_1, q_evP_2, q_evC_1, q_evC_2, q_evI_1, q_evI_2, q_evRet_1, q_evS_1, q_evS_2, q_evS_3, q_evS_4, q_evS_5, q_evS_6, q_evS_7, q_evS_8, q_evS_9, q_evS_10, q_evS_11, q_evS_12, q_evS_13, q_evS_14, q_evS_15, q_evS_16, q_evSs_1, q_evSs_2, q_oa_0, q_rt_0, q_oa_1, q_rt_1, q_oa_2, q_rt_2, q_oa_3, q_rt_3, q_oa_4, q_rt_4, q_oa_5, q_rt_5, q_oa_6, q_rt_6, q_oa_7, q_rt_7, q_oa_8, q_rt_8, q_oa_9, q_rt_9, q_oa_10, q_rt_10, q_oa_11, q_rt_11, q_oa_12, q_rt_12, q_oa_13, q_rt_13, q_oa_14, q_rt_14, q_oa_15, q_rt_15, q_oa_16, q_rt_16, q_oa_17, q_rt_17, q_oa_18, q_rt_18, q_ar_0, q_ar_1, q_ar_2, asI_i, q_ret, q_bind, q_bindn, q_map, q_mapn, q_evT, q_own, startR, List.getElem?_cons_succ, List.getElem?_cons_zero, List.set_cons_succ, List.set_cons_zero, List.map_cons, List.map_nil, List.replicate, List.length_cons, List.length_nil, List.append_eq, List.nil_append, List.cons_append, Bool.and_true, Bool.true_and, Bool.and_false, Bool.false_and, Bool.not_true, Bool.not_false, if_true, if_false, reduceCtorEq, Nat.reduceSub, Nat.reduceAdd, Nat.reduceLeDiff, Bool.false_eq_true, Bool.or_false, Bool.false_or, ite_true, ite_false, lenOk_0, lenOk_1, lenOk_2, lenOk_3, lenOk_4, lenOk_5, lenOk_6, lenOk_7, lenOk_8, i_add, i_sub, i_neg, i_asI, N_int, i_inti, i_intb, decide_true, decide_false, x1, ixN1, ixN2, e1, c1, c2, i_gt, i_lt, d1, d2, hlen]
end K83

set_option Elab.async false
set_option linter.all false
set_option maxRecDepth 100000
set_option maxHeartbeats 4000000
namespace K83
open PySem L2 PV Qu LL
open Classical
variable {d : Nat}
abbrev Ms (d : Nat) := Q d × Q d × Q d × Q d
def DnM (m : Ms d) : Prop := Dn 12 96 m.1 ∧ Dn 12 96 m.2.1 ∧ Dn 12 96 m.2.2.1 ∧ Dn 12 96 m.2.2.2
theorem sq_lt {S k : Nat} (h : S < 2 ^ k) : S * S < 2 ^ (k + k) := by
  rw [Nat.pow_add]
  exact Nat.mul_lt_mul'' h h
theorem meas_dn {m : Ms d} {w h : Q d} {S B : Nat} (hm : DnM m) (hw : Dn S B w) (hh : Dn S B h) : Dn (12 * (S * S)) (4 * ((d + 2) * (96 * ((d + 2) * (B * B))))) (meas m w h) := by
  have a1 := hm.1.mul (hw.mul hh)
  have a2 := hm.2.1.mul (hw.mul hh.conj)
  have a3 := hm.2.2.1.mul (hw.conj.mul hh)
  have a4 := hm.2.2.2.mul (hw.conj.mul hh.conj)
  have := ((a1.add a2).add a3).add a4
  unfold meas
  refine Dn.mono this (Nat.le_of_eq ?_)
  omega
theorem areas_loop [NSq d] {T : List (Tl d)} {F : List (Ln d)} {S B : Nat} {s1 s3 s6 s7 s8 s10 s11 s14 : Option R} (hd : d < 64)
    (hS0 : 0 < S) (hS : S < 2 ^ 80) (hB : B < 2 ^ 80) (hT : ∀ t ∈ T, DnT S B t) (h : OkT 80 T) (hn : T.length ≤ 60) (hF : IsLines (edges T) F) :
    ∀ s9, ∃ ρ', forGo (.nm 9) (blk FUEL ib__law_decided_6) ((List.range T.length).map N) [sI (d : Int), s1, some (false, .list (T.map encTl)), s3, some (false, .list (F.map encLn)), some (false, .list ((netT F T).map encPr)), s6, s7, s8, s9, s10, s11, some (true, .list []), none, s14] = some (.nx ρ') ∧
      ∃ s9 s13, ρ' = [sI (d : Int), s1, some (false, .list (T.map encTl)), s3, some (false, .list (F.map encLn)), some (false, .list ((netT F T).map encPr)), s6, s7, s8, s9, s10, s11, some (true, .list ((T.map fun t => t.2.2.1 * t.2.2.2).map L)), s13, s14] := fun s9 => by
  have nl : (netT F T).length = T.length := by unfold netT; rw [List.length_map]
  have := forGo_do (g := .nm 9) (f := blk FUEL ib__law_decided_6) N (fun pre ρ => ∃ s9 s13, ρ = [sI (d : Int), s1, some (false, .list (T.map encTl)), s3, some (false, .list (F.map encLn)), some (false, .list ((netT F T).map encPr)), s6, s7, s8, s9, s10, s11, some (true, .list (((T.take pre.length).map fun t => t.2.2.1 * t.2.2.2).map L)), s13, s14]) (l := List.range T.length) (ρ := [sI (d : Int), s1, some (false, .list (T.map encTl)), s3, some (false, .list (F.map encLn)), some (false, .list ((netT F T).map encPr)), s6, s7, s8, s9, s10, s11, some (true, .list []), none, s14]) ⟨s9, none, rfl⟩ ?_
  · obtain ⟨ρ', e, s9', s13', e2⟩ := this
    rw [List.length_range, List.take_length] at e2
    exact ⟨ρ', e, s9', s13', e2⟩
  · rintro pre j suf ρ hj ⟨s9, s13, rfl⟩
    obtain ⟨e, hl⟩ := range_at hj
    subst e
    have i1 := ix_mapA (en := encPr) (l := netT F T) (k := pre.length) (by omega)
    have i2 := ix_mapA (en := encTl (d := d)) (l := T) (k := pre.length) hl
    have e : (netT F T)[pre.length]'(by omega) = (ixL F (fx T[pre.length]) (fy T[pre.length]), ixL F (fx T[pre.length]) (ft T[pre.length])) := by unfold netT; rw [List.getElem_map]
    rw [e] at i1
    have tk : T.take (pre.length + 1) = T.take pre.length ++ [T[pre.length]] := by rw [List.take_succ, List.getElem?_eq_getElem hl]; rfl
    have ht : T[pre.length] ∈ T := List.getElem_mem hl
    have lk : lenOk (((T.take pre.length).map fun t => t.2.2.1 * t.2.2.2).map L |>.length.succ) = true := lenOk_of (by
      rw [List.length_map, List.length_map, List.length_take]; omega)
    generalize T[pre.length] = t at *
    have i3 : evIx (encPr (ixL F (fx t) (fy t), ixL F (fx t) (ft t))) (.int 0) = some (false, .int ((ixL F (fx t) (fy t) : Nat) : Int)) := Eq.trans rfl (Eq.refl _)
    have i4 : evIx (encPr (ixL F (fx t) (fy t), ixL F (fx t) (ft t))) (.int 1) = some (false, .int ((ixL F (fx t) (ft t) : Nat) : Int)) := Eq.trans rfl (Eq.refl _)
    obtain ⟨o1, o2⟩ := tile_on h hF ht
    obtain ⟨u, eu, u1, -⟩ := ixL_on o1
    obtain ⟨v, ev, v1, -⟩ := ixL_on o2
    have x1 : evIx (.list (F.map encLn)) (.int ((ixL F (fx t) (fy t) : Nat) : Int)) = some (false, encLn u) := by
      obtain ⟨hi, e⟩ := List.getElem?_eq_some_iff.mp eu
      rw [ix_mapA (en := encLn (d := d)) hi, e]
    have x2 : evIx (.list (F.map encLn)) (.int ((ixL F (fx t) (ft t) : Nat) : Int)) = some (false, encLn v) := by
      obtain ⟨hi, e⟩ := List.getElem?_eq_some_iff.mp ev
      rw [ix_mapA (en := encLn (d := d)) hi, e]
    have sz := (h t ht).1
    have a1 := law_minus_is (x := v.1) (y := u.1) (k := 161) (l := 161) (by rw [v1]; exact (plus_sz sz.2.1 sz.2.2.2).mono (by omega)) (by rw [u1]; exact sz.2.1.mono (by omega)) (by decide)
    rw [v1, u1, show ft t - fy t = t.2.2.2 by unfold ft fy; grind] at a1
    have a2 := law_times_is hd sz.2.2.1 sz.2.2.2 (by decide)
    refine ⟨_, _, rfl, ?_, sI (pre.length : Int), sQ t.2.2.2, by rw [List.length_append, List.length_singleton, tk, List.map_append, List.map_append]⟩
    show evSs FUEL ib__law_decided_6 [sI (d : Int), s1, some (false, .list (T.map encTl)), s3, some (false, .list (F.map encLn)), some (false, .list ((netT F T).map encPr)), s6, s7, s8, sI (pre.length : Int), s10, s11, some (true, .list (((T.take pre.length).map fun t => t.2.2.1 * t.2.2.2).map L)), s13, s14] = _
    unfold ib__law_decided_6
    rw [← v1] at a1
    rw [← u1] at a1
    simp only [q_wipeR_1, q_wipeR_2, q_asg_1, q_asg_2, q_asg_3, q_asg_4, q_asg_5, q_asg_6, q_asg_7, q_asgR_1, q_ownedArg_1, q_ownedArgs_1, q_ownedArgs_2, q_itemsOf_1, q_itemsOf_2, q_evE_1, q_evE_2, q_evE_3, q_evE_4, q_evE_5, q_evE_6, q_evE_7, q_evE_8, q_evE_9, q_evE_10, q_evE_11, q_evE_12, q_evE_13, q_evE_14, q_evE_15, q_evE_16, q_evE_17, q_evE_18, q_evE_19, q_evE_20, q_evEs_1, q_evEs_2, q_evP_1, q_evP_2, q_evC_1, q_evC_2, q_evI_1, q_evI_2, q_evRet_1, q_evS_1, q_evS_2, q_evS_3, q_evS_4, q_evS_5, q_evS_6, q_evS_7, q_evS_8, q_evS_9, q_evS_10, q_evS_11, q_evS_12, q_evS_13, q_evS_14, q_evS_15, q_evS_16, q_evSs_1, q_evSs_2, q_oa_0, q_rt_0, q_oa_1, q_rt_1, q_oa_2, q_rt_2, q_oa_3, q_rt_3, q_oa_4, q_rt_4, q_oa_5, q_rt_5, q_oa_6, q_rt_6, q_oa_7, q_rt_7, q_oa_8, q_rt_8, q_oa_9, q_rt_9, q_oa_10, q_rt_10, q_oa_11, q_rt_11, q_oa_12, q_rt_12, q_oa_13, q_rt_13, q_oa_14, q_rt_14, q_oa_15, q_rt_15, q_oa_16, q_rt_16, q_oa_17, q_rt_17, q_oa_18, q_rt_18, q_ar_0, q_ar_1, q_ar_2, asI_i, q_ret, q_bind, q_bindn, q_map, q_mapn, q_evT, q_own, startR, List.getElem?_cons_succ, List.getElem?_cons_zero, List.set_cons_succ, List.set_cons_zero, List.map_cons, List.map_nil, List.replicate, List.length_cons, List.length_nil, List.append_eq, List.nil_append, List.cons_append, Bool.and_true, Bool.true_and, Bool.and_false, Bool.false_and, Bool.not_true, Bool.not_false, if_true, if_false, reduceCtorEq, Nat.reduceSub, Nat.reduceAdd, Nat.reduceLeDiff, Bool.false_eq_true, Bool.or_false, Bool.false_or, ite_true, ite_false, lenOk_0, lenOk_1, lenOk_2, lenOk_3, lenOk_4, lenOk_5, lenOk_6, lenOk_7, lenOk_8, i_add, i_sub, i_neg, i_asI, N_int, i_inti, i_intb, decide_true, decide_false, i1, i3, i4, x1, x2, ixN0, a1, i2, ixT2, a2, lk]

theorem decided_is [NSq d] {W H : Q d} {m : Ms d} {T : List (Tl d)} {S B : Nat} (hd : d < 64) (hS0 : 0 < S) (hS : S < 2 ^ 80) (hB : B < 2 ^ 80) (hT : ∀ t ∈ T, DnT S B t) (hs : 0 < W ∧ 0 < H) (dW : Dn 12 96 W) (dH : Dn 12 96 H) (hm : DnM m)
    (hf : Fit T (0, 0, W, H)) (hb : Nb T (0, 0, W, H)) (hj : Dj T) (hn : T.length ≤ 60) (hA : qs (T.map fun t => t.2.2.1 * t.2.2.2) = W * H) (hM : qs (T.map fun t => meas m t.2.2.1 t.2.2.2) = meas m W H) :
    f__law_decided [.int (d : Int), .tuple [L W, L H], .list (T.map encTl), encM m] = some (false, .bool true) := by
  have h : OkT 80 T := fun t ht => ⟨(hT t ht).sz hS0 hS hB, hf.pos t ht⟩
  obtain ⟨F, g1, g3, g2⟩ := lying_lines_is (sh := .tuple [L W, L H]) hd h (show 80 ≤ 900 by decide) (show T.length ≤ 200 by omega)
  have no := net_of_is (sh := .tuple [L W, L H]) hd h (show 80 ≤ 400 by decide) (by omega) g1
  obtain ⟨M, hM0⟩ := fit_ends hf hs g1
  have b1 : evBI .list [.list (T.map encTl)] = some (true, .list (T.map encTl)) := rfl
  have hlen : evBI .len [.list (F.map encLn)] = some (false, .int (F.length : Nat)) := len_mapA F
  have hlenT : evBI .len [.list (T.map encTl)] = some (false, .int (T.length : Nat)) := len_mapA T
  have hr : evRng [.int (F.length : Nat)] = some ((List.range F.length).map N) := n_rng1 (n := F.length) (by omega)
  have hrT : evRng [.int (T.length : Nat)] = some ((List.range T.length).map N) := n_rng1 (n := T.length) (by omega)
  obtain ⟨ρ', lp, s6, s7, s8, s9, s10, s11, rfl⟩ := forGo_do (g := .nm 6) (f := blk FUEL ib__law_decided_5) N (fun pre ρ => ∃ s6 s7 s8 s9 s10 s11, ρ = [sI (d : Int), some (false, .tuple [L W, L H]), some (false, .list (T.map encTl)), some (false, encM m), some (false, .list (F.map encLn)), some (false, .list ((netT F T).map encPr)), s6, s7, s8, s9, s10, s11, none, none, none]) (l := List.range F.length) (ρ := [sI (d : Int), some (false, .tuple [L W, L H]), some (false, .list (T.map encTl)), some (false, encM m), some (false, .list (F.map encLn)), some (false, .list ((netT F T).map encPr)), none, none, none, none, none, none, none, none, none]) ⟨_, _, _, _, _, _, rfl⟩ (by
    rintro pre j suf ρ hj0 ⟨s6, s7, s8, s9, s10, s11, rfl⟩
    obtain ⟨e, hl⟩ := range_at hj0
    subst e
    exact ⟨_, _, rfl, line_step hS0 hS hB hT h hs hf hb hj hn g1 (by omega) (List.getElem?_eq_getElem hl), _, _, _, _, _, _, rfl⟩)
  obtain ⟨ρ2, lp2, s9', s13', rfl⟩ := areas_loop (s1 := some (false, .tuple [L W, L H])) (s3 := some (false, encM m)) (s6 := s6) (s7 := s7) (s8 := s8) (s10 := s10) (s11 := s11) (s14 := none) hd hS0 hS hB hT h hn g1 s9
  have w0 := whole_is (d := d) 0
  have zc : ((0 : Int) : Q d) = 0 := rfl
  rw [zc] at w0
  have ea : (0 : Q d) + W = W := by grind
  have first : evIx (.list (F.map encLn)) (.int 0) = some (false, .tuple [L (0 : Q d), L (0 : Q d), L W]) := by
    rw [hM0]
    have := ix_getA (encLn (d := d)) (0, 0, 0) (l := (fy ((0, 0, W, H) : Tl d), fx ((0, 0, W, H) : Tl d), fr ((0, 0, W, H) : Tl d)) :: M ++ [(ft ((0, 0, W, H) : Tl d), fx ((0, 0, W, H) : Tl d), fr ((0, 0, W, H) : Tl d))]) (k := 0) (by simp)
    rw [show (((0 : Nat) : Int)) = 0 by rfl] at this
    rw [this]
    show some (false, PyData.tuple [L (0 : Q d), L (0 : Q d), L ((0 : Q d) + W)]) = _
    rw [ea]
  have last : evIx (.list (F.map encLn)) (.int (-1)) = some (false, .tuple [L ((0 : Q d) + H), L (0 : Q d), L W]) := by
    rw [hM0, ix_end]
    show some (false, PyData.tuple [L ((0 : Q d) + H), L (0 : Q d), L ((0 : Q d) + W)]) = _
    rw [ea]
  have s1 : S < 2 ^ 200 := by omega
  have ss := sq_lt hS
  have bb := sq_lt hB
  have c1 : (d + 2) * (B * B) ≤ 66 * (B * B) := Nat.mul_le_mul_right _ (by omega)
  have c2 : (d + 2) * (96 * ((d + 2) * (B * B))) ≤ 66 * (96 * ((d + 2) * (B * B))) := Nat.mul_le_mul_right _ (by omega)
  have c3 : T.length * ((d + 2) * (B * B)) ≤ 60 * ((d + 2) * (B * B)) := Nat.mul_le_mul_right _ hn
  have c4 : T.length * (4 * ((d + 2) * (96 * ((d + 2) * (B * B))))) ≤ 60 * (4 * ((d + 2) * (96 * ((d + 2) * (B * B))))) := Nat.mul_le_mul_right _ hn
  have sa := law_sum_is (S := S * S) (B := (d + 2) * (B * B)) (k := 200) (l := T.map fun t => t.2.2.1 * t.2.2.2) (Nat.mul_pos hS0 hS0) (by omega) (by rw [List.length_map]; omega) (by decide) (fun x hx => by
    obtain ⟨t, ht, rfl⟩ := List.mem_map.mp hx
    exact (hT t ht).2.2.1.mul (hT t ht).2.2.2)
  have sm := law_sum_is (S := 12 * (S * S)) (B := 4 * ((d + 2) * (96 * ((d + 2) * (B * B))))) (k := 200) (l := T.map fun t => meas m t.2.2.1 t.2.2.2) (Nat.mul_pos (by decide) (Nat.mul_pos hS0 hS0)) (by omega) (by rw [List.length_map]; omega) (by decide) (fun x hx => by
    obtain ⟨t, ht, rfl⟩ := List.mem_map.mp hx
    exact meas_dn hm (hT t ht).2.2.1 (hT t ht).2.2.2)
  rw [hA] at sa
  rw [hM] at sm
  have zW := dW.sz (k := 80) (by decide) (by decide) (by decide)
  have zH := dH.sz (k := 80) (by decide) (by decide) (by decide)
  have zm : SzM 80 m := ⟨hm.1.sz (by decide) (by decide) (by decide), hm.2.1.sz (by decide) (by decide) (by decide), hm.2.2.1.sz (by decide) (by decide) (by decide), hm.2.2.2.sz (by decide) (by decide) (by decide)⟩
  have ta := law_times_is hd zW zH (by decide)
  have tm := (measure_is hd zm zW zH (by decide)).1
  have cm : ∀ (b : Bool) (s1 s4 s5 s6 s7 s8 s9 s10 s11 s12 s13 s14 : Option R), evE ic__law_decided_7 b [sI (d : Int), s1, some (false, .list (T.map encTl)), some (false, encM m), s4, s5, s6, s7, s8, s9, s10, s11, s12, s13, s14] = some (true, .list ((T.map fun t => meas m t.2.2.1 t.2.2.2).map L)) := fun b s1 s4 s5 s6 s7 s8 s9 s10 s11 s12 s13 s14 => by
    unfold ic__law_decided_7
    simp only [q_wipeR_1, q_wipeR_2, q_asg_1, q_asg_2, q_asg_3, q_asg_4, q_asg_5, q_asg_6, q_asg_7, q_asgR_1, q_ownedArg_1, q_ownedArgs_1, q_ownedArgs_2, q_itemsOf_1, q_itemsOf_2, q_evE_1, q_evE_2, q_evE_3, q_evE_4, q_evE_5, q_evE_6, q_evE_7, q_evE_8, q_evE_9, q_evE_10, q_evE_11, q_evE_12, q_evE_13, q_evE_14, q_evE_15, q_evE_16, q_evE_17, q_evE_18, q_evE_19, q_evE_20, q_evEs_1, q_evEs_2, q_evP_1, q_evP_2, q_evC_1, q_evC_2, q_evI_1, q_evI_2, q_evRet_1, q_evS_1, q_evS_2, q_evS_3, q_evS_4, q_evS_5, q_evS_6, q_evS_7, q_evS_8, q_evS_9, q_evS_10, q_evS_11, q_evS_12, q_evS_13, q_evS_14, q_evS_15, q_evS_16, q_evSs_1, q_evSs_2, q_oa_0, q_rt_0, q_oa_1, q_rt_1, q_oa_2, q_rt_2, q_oa_3, q_rt_3, q_oa_4, q_rt_4, q_oa_5, q_rt_5, q_oa_6, q_rt_6, q_oa_7, q_rt_7, q_oa_8, q_rt_8, q_oa_9, q_rt_9, q_oa_10, q_rt_10, q_oa_11, q_rt_11, q_oa_12, q_rt_12, q_oa_13, q_rt_13, q_oa_14, q_rt_14, q_oa_15, q_rt_15, q_oa_16, q_rt_16, q_oa_17, q_rt_17, q_oa_18, q_rt_18, q_ar_0, q_ar_1, q_ar_2, asI_i, q_ret, q_bind, q_bindn, q_map, q_mapn, q_evT, q_own, startR, List.getElem?_cons_succ, List.getElem?_cons_zero, List.set_cons_succ, List.set_cons_zero, List.map_cons, List.map_nil, List.replicate, List.length_cons, List.length_nil, List.append_eq, List.nil_append, List.cons_append, Bool.and_true, Bool.true_and, Bool.and_false, Bool.false_and, Bool.not_true, Bool.not_false, if_true, if_false, reduceCtorEq, Nat.reduceSub, Nat.reduceAdd, Nat.reduceLeDiff, Bool.false_eq_true, Bool.or_false, Bool.false_or, ite_true, ite_false, lenOk_0, lenOk_1, lenOk_2, lenOk_3, lenOk_4, lenOk_5, lenOk_6, lenOk_7, lenOk_8, i_add, i_sub, i_neg, i_asI, N_int, i_inti, i_intb, decide_true, decide_false]
    rw [compGo_map (en2 := L) (fun t : Tl d => some (meas m t.2.2.1 t.2.2.2)), filterMap_some]
    · rfl
    · intro t ht
      have z := (hT t ht).sz hS0 hS hB
      simp only [q_wipeR_1, q_wipeR_2, q_asg_1, q_asg_2, q_asg_3, q_asg_4, q_asg_5, q_asg_6, q_asg_7, q_asgR_1, q_ownedArg_1, q_ownedArgs_1, q_ownedArgs_2, q_itemsOf_1, q_itemsOf_2, q_evE_1, q_evE_2, q_evE_3, q_evE_4, q_evE_5, q_evE_6, q_evE_7, q_evE_8, q_evE_9, q_evE_10, q_evE_11, q_evE_12, q_evE_13, q_evE_14, q_evE_15, q_evE_16, q_evE_17, q_evE_18, q_evE_19, q_evE_20, q_evEs_1, q_evEs_2, q_evP_1, q_evP_2, q_evC_1, q_evC_2, q_evI_1, q_evI_2, q_evRet_1, q_evS_1, q_evS_2, q_evS_3, q_evS_4, q_evS_5, q_evS_6, q_evS_7, q_evS_8, q_evS_9, q_evS_10, q_evS_11, q_evS_12, q_evS_13, q_evS_14, q_evS_15, q_evS_16, q_evSs_1, q_evSs_2, q_oa_0, q_rt_0, q_oa_1, q_rt_1, q_oa_2, q_rt_2, q_oa_3, q_rt_3, q_oa_4, q_rt_4, q_oa_5, q_rt_5, q_oa_6, q_rt_6, q_oa_7, q_rt_7, q_oa_8, q_rt_8, q_oa_9, q_rt_9, q_oa_10, q_rt_10, q_oa_11, q_rt_11, q_oa_12, q_rt_12, q_oa_13, q_rt_13, q_oa_14, q_rt_14, q_oa_15, q_rt_15, q_oa_16, q_rt_16, q_oa_17, q_rt_17, q_oa_18, q_rt_18, q_ar_0, q_ar_1, q_ar_2, asI_i, q_ret, q_bind, q_bindn, q_map, q_mapn, q_evT, q_own, startR, List.getElem?_cons_succ, List.getElem?_cons_zero, List.set_cons_succ, List.set_cons_zero, List.map_cons, List.map_nil, List.replicate, List.length_cons, List.length_nil, List.append_eq, List.nil_append, List.cons_append, Bool.and_true, Bool.true_and, Bool.and_false, Bool.false_and, Bool.not_true, Bool.not_false, if_true, if_false, reduceCtorEq, Nat.reduceSub, Nat.reduceAdd, Nat.reduceLeDiff, Bool.false_eq_true, Bool.or_false, Bool.false_or, ite_true, ite_false, lenOk_0, lenOk_1, lenOk_2, lenOk_3, lenOk_4, lenOk_5, lenOk_6, lenOk_7, lenOk_8, i_add, i_sub, i_neg, i_asI, N_int, i_inti, i_intb, decide_true, decide_false, ixT2, ixT3, (measure_is hd zm z.2.2.1 z.2.2.2 (by decide)).1]
  have oa : ∀ ρ, ownedArg ρ ic__law_decided_7 = false := fun ρ => Eq.trans rfl (Eq.refl _)
  have nl : ∀ x : Q d, nolistR (false, L x) = true := fun x => Eq.trans rfl (Eq.refl _)
  unfold f__law_decided evDef ir__law_decided
  simp only [q_wipeR_1, q_wipeR_2, q_asg_1, q_asg_2, q_asg_3, q_asg_4, q_asg_5, q_asg_6, q_asg_7, q_asgR_1, q_ownedArg_1, q_ownedArgs_1, q_ownedArgs_2, q_itemsOf_1, q_itemsOf_2, q_evE_1, q_evE_2, q_evE_3, q_evE_4, q_evE_5, q_evE_6, q_evE_7, q_evE_8, q_evE_9, q_evE_10, q_evE_11, q_evE_12, q_evE_13, q_evE_14, q_evE_15, q_evE_16, q_evE_17, q_evE_18, q_evE_19, q_evE_20, q_evEs_1, q_evEs_2, q_evP_1, q_evP_2, q_evC_1, q_evC_2, q_evI_1, q_evI_2, q_evRet_1, q_evS_1, q_evS_2, q_evS_3, q_evS_4, q_evS_5, q_evS_6, q_evS_7, q_evS_8, q_evS_9, q_evS_10, q_evS_11, q_evS_12, q_evS_13, q_evS_14, q_evS_15, q_evS_16, q_evSs_1, q_evSs_2, q_oa_0, q_rt_0, q_oa_1, q_rt_1, q_oa_2, q_rt_2, q_oa_3, q_rt_3, q_oa_4, q_rt_4, q_oa_5, q_rt_5, q_oa_6, q_rt_6, q_oa_7, q_rt_7, q_oa_8, q_rt_8, q_oa_9, q_rt_9, q_oa_10, q_rt_10, q_oa_11, q_rt_11, q_oa_12, q_rt_12, q_oa_13, q_rt_13, q_oa_14, q_rt_14, q_oa_15, q_rt_15, q_oa_16, q_rt_16, q_oa_17, q_rt_17, q_oa_18, q_rt_18, q_ar_0, q_ar_1, q_ar_2, asI_i, q_ret, q_bind, q_bindn, q_map, q_mapn, q_evT, q_own, startR, List.getElem?_cons_succ, List.getElem?_cons_zero, List.set_cons_succ, List.set_cons_zero, List.map_cons, List.map_nil, List.replicate, List.length_cons, List.length_nil, List.append_eq, List.nil_append, List.cons_append, Bool.and_true, Bool.true_and, Bool.and_false, Bool.false_and, Bool.not_true, Bool.not_false, if_true, if_false, reduceCtorEq, Nat.reduceSub, Nat.reduceAdd, Nat.reduceLeDiff, Bool.false_eq_true, Bool.or_false, Bool.false_or, ite_true, ite_false, lenOk_0, lenOk_1, lenOk_2, lenOk_3, lenOk_4, lenOk_5, lenOk_6, lenOk_7, lenOk_8, i_add, i_sub, i_neg, i_asI, N_int, i_inti, i_intb, decide_true, decide_false, b1, g2, no, hlen, hr, lp, first, last, i_neg, ix_t0, ix_t1, ix_t2, w0, L_ne, hlenT, hrT, lp2, sa, nl, ta, oa, cm, sm, tm, L_eq]
end K83

set_option Elab.async false
set_option linter.all false
set_option maxRecDepth 100000
set_option maxHeartbeats 4000000
namespace K83
open PySem L2 PV Qu LL
open Classical
theorem meas_add {d : Nat} (m : Ms d) : (∀ x y h : Q d, meas m (x + y) h = meas m x h + meas m y h) ∧ (∀ w x y : Q d, meas m w (x + y) = meas m w x + meas m w y) := by
  have cj : ∀ x y : Q d, (x + y).conj = x.conj + y.conj := fun x y => ext' rfl (by show -(x.b + y.b) = -x.b + -y.b; grind)
  constructor
  · intro x y h
    unfold meas
    rw [cj]
    grind
  · intro w x y
    unfold meas
    rw [cj]
    grind
theorem cuts_decided {d : Nat} [NSq d] {w h : Q d} {n : Nat} {T : List (Tl d)} {m : Ms d} (hd : d < 64) (hw : 0 < w) (hh : 0 < h) (dw : Dn 12 96 w) (dh : Dn 12 96 h) (hm : DnM m) (hn : n ≤ 6) (hT : CutN [tile0 w h] n T) :
    f__law_decided [.int (d : Int), .tuple [L w, L h], .list ((orderT [] T).map encTl), encM m] = some (false, .bool true) := by
  have hP : (orderT [] T).Perm T := orderT_perm T []
  have hs : 0 < (tile0 w h).2.2.1 ∧ 0 < (tile0 w h).2.2.2 := ⟨hw, hh⟩
  have hf := fit_cuts hs hT
  have hb := nb_cuts hs hT
  have hj := dj_cuts hs hT
  obtain ⟨l1, l2⟩ := cuts_len hT
  rw [List.length_singleton] at l1 l2
  have hdn := cuts_dn (T0 := [tile0 w h]) (S := 12) (B := 96) (fun t ht => by rw [List.mem_singleton.mp ht]; exact tile0_dn dw dh) hT
  obtain ⟨z1, z2⟩ := pow_big n hn
  have sA := qcuts_sum (f := fun a b => a * b) (fun x y h => by grind) (fun w x y => by grind) hT
  have sM := qcuts_sum (f := meas m) (meas_add m).1 (meas_add m).2 hT
  refine decided_is hd (Nat.mul_pos (by decide) (Nat.pow_pos (by decide))) z1 z2 (fun t ht => hdn t (hP.mem_iff.mp ht)) ⟨hw, hh⟩ dw dh hm (hf.perm hP) (hb.perm hP) (hj.perm hP) (by rw [hP.length_eq]; omega) ?_ ?_
  · rw [qs_perm (hP.map _), sA]
    show w * h + 0 = _
    grind
  · rw [qs_perm (hP.map _), sM]
    show meas m w h + 0 = _
    grind
theorem law_true (ns : List Int) (hl : ns.length ≤ 63) : f_law [.list (ns.map .int)] = some (false, .bool true) := by
  obtain ⟨l, h60, e1⟩ := law_draws_is hl 60 (by decide)
  have e1 : f__law_draws [.list (ns.map .int), .int 60] = some (true, .list (l.map N)) := e1
  have x0 : evIx (.list (l.map N)) (.int 0) = some (false, .int (l.getD 0 0 : Nat)) := ix_getD (k := 0) (by omega)
  have x1 : evIx (.list (l.map N)) (.int 1) = some (false, .int (l.getD 1 0 : Nat)) := ix_getD (k := 1) (by omega)
  have x2 : evIx (.list (l.map N)) (.int 2) = some (false, .int (l.getD 2 0 : Nat)) := ix_getD (k := 2) (by omega)
  obtain ⟨d, hd, er⟩ := root_is (l.getD 0 0)
  obtain ⟨h64, hn⟩ := nsq_roots hd
  obtain ⟨A, hA⟩ := aboves (d := d) (l := l) h64
  obtain ⟨w0, wz, wd, a8⟩ := hA 8 (by omega)
  obtain ⟨h0, hz, hd2, a11⟩ := hA 11 (by omega)
  obtain ⟨-, -, m1, a14⟩ := hA 14 (by omega)
  obtain ⟨-, -, m2, a17⟩ := hA 17 (by omega)
  obtain ⟨-, -, m3, a20⟩ := hA 20 (by omega)
  obtain ⟨-, -, m4, a23⟩ := hA 23 (by omega)
  have a8 : f__law_above [.list (l.map N), .int 8, .int (d : Int)] = some (false, L (A 8)) := a8
  have a11 : f__law_above [.list (l.map N), .int 11, .int (d : Int)] = some (false, L (A 11)) := a11
  have a14 : f__law_above [.list (l.map N), .int (14 + 0), .int (d : Int)] = some (false, L (A 14)) := a14
  have a17 : f__law_above [.list (l.map N), .int (14 + 3), .int (d : Int)] = some (false, L (A 17)) := a17
  have a20 : f__law_above [.list (l.map N), .int (14 + 6), .int (d : Int)] = some (false, L (A 20)) := a20
  have a23 : f__law_above [.list (l.map N), .int (14 + 9), .int (d : Int)] = some (false, L (A 23)) := a23
  have hm : DnM (A 14, A 17, A 20, A 23) := ⟨m1, m2, m3, m4⟩
  have p0 : evBin .mul (.int 3) (.int 0) = some (false, .int 0) := rfl
  have p1 : evBin .mul (.int 3) (.int 1) = some (false, .int 3) := rfl
  have p2 : evBin .mul (.int 3) (.int 2) = some (false, .int 6) := rfl
  have p3 : evBin .mul (.int 3) (.int 3) = some (false, .int 9) := rfl
  have bt : ∀ l, evBI .tuple [.list l] = some (false, .tuple l) := fun l => rfl
  have cmp : ∀ (b : Bool) (s0 s3 s4 s5 s6 : Option R), evE ic_law_1 b [s0, some (false, .list (l.map N)), sI (d : Int), s3, s4, s5, s6] = some (true, .list [L (A 14), L (A 17), L (A 20), L (A 23)]) := fun b s0 s3 s4 s5 s6 => by
    unfold ic_law_1
    simp only [q_wipeR_1, q_wipeR_2, q_asg_1, q_asg_2, q_asg_3, q_asg_4, q_asg_5, q_asg_6, q_asg_7, q_asgR_1, q_ownedArg_1, q_ownedArgs_1, q_ownedArgs_2, q_itemsOf_1, q_itemsOf_2, q_evE_1, q_evE_2, q_evE_3, q_evE_4, q_evE_5, q_evE_6, q_evE_7, q_evE_8, q_evE_9, q_evE_10, q_evE_11, q_evE_12, q_evE_13, q_evE_14, q_evE_15, q_evE_16, q_evE_17, q_evE_18, q_evE_19, q_evE_20, q_evEs_1, q_evEs_2, q_evP_1, q_evP_2, q_evC_1, q_evC_2, q_evI_1, q_evI_2, q_evRet_1, q_evS_1, q_evS_2, q_evS_3, q_evS_4, q_evS_5, q_evS_6, q_evS_7, q_evS_8, q_evS_9, q_evS_10, q_evS_11, q_evS_12, q_evS_13, q_evS_14, q_evS_15, q_evS_16, q_evSs_1, q_evSs_2, q_oa_0, q_rt_0, q_oa_1, q_rt_1, q_oa_2, q_rt_2, q_oa_3, q_rt_3, q_oa_4, q_rt_4, q_oa_5, q_rt_5, q_oa_6, q_rt_6, q_oa_7, q_rt_7, q_oa_8, q_rt_8, q_oa_9, q_rt_9, q_oa_10, q_rt_10, q_oa_11, q_rt_11, q_oa_12, q_rt_12, q_oa_13, q_rt_13, q_oa_14, q_rt_14, q_oa_15, q_rt_15, q_oa_16, q_rt_16, q_oa_17, q_rt_17, q_oa_18, q_rt_18, q_ar_0, q_ar_1, q_ar_2, asI_i, q_ret, q_bind, q_bindn, q_map, q_mapn, q_evT, q_own, startR, List.getElem?_cons_succ, List.getElem?_cons_zero, List.set_cons_succ, List.set_cons_zero, List.map_cons, List.map_nil, List.replicate, List.length_cons, List.length_nil, List.append_eq, List.nil_append, List.cons_append, Bool.and_true, Bool.true_and, Bool.and_false, Bool.false_and, Bool.not_true, Bool.not_false, if_true, if_false, reduceCtorEq, Nat.reduceSub, Nat.reduceAdd, Nat.reduceLeDiff, Bool.false_eq_true, Bool.or_false, Bool.false_or, ite_true, ite_false, lenOk_0, lenOk_1, lenOk_2, lenOk_3, lenOk_4, lenOk_5, lenOk_6, lenOk_7, lenOk_8, i_add, i_sub, i_neg, i_asI, N_int, i_inti, i_intb, decide_true, decide_false, r_4, q_cg1, q_cg2, p0, p1, p2, p3, a14, a17, a20, a23]
  have hme : PyData.tuple [L (A 14), L (A 17), L (A 20), L (A 23)] = encM (A 14, A 17, A 20, A 23) := rfl
  generalize A 8 = w at *
  generalize A 11 = h at *
  obtain ⟨T, hT, ec⟩ := cutting_is (l := l) (at0 := 26) (many := l.getD 1 0 % 6) h64 wd hd2 (by omega) (by omega) (by omega)
  have e5 : ((l.getD 1 0 % 6 : Nat) : Int) = (l.getD 1 0 : Int) % 6 := by omega
  rw [e5] at ec
  have ec : f__law_cutting [.list (l.map N), .int 26, .int (d : Int), .tuple [L w, L h], .int ((l.getD 1 0 : Int) % 6)] = some (true, .list ((orderT [] T).map encTl)) := ec
  have t1 := cuts_decided h64 w0 h0 wd hd2 hm (by omega) hT
  have e6 : PyData.tuple [.int 6, .int 0, .int 1] = L ((6 : Int) : Q d) := L_int 6
  obtain ⟨T2, hT2, ec2⟩ := cutting_is (l := l) (at0 := 42) (many := 1 + l.getD 2 0 % 4) h64 (d6 (d := d)) d6 (by omega) (by omega) (by omega)
  have e7 : ((1 + l.getD 2 0 % 4 : Nat) : Int) = 1 + (l.getD 2 0 : Int) % 4 := by omega
  rw [e7] at ec2
  have ec2 : f__law_cutting [.list (l.map N), .int 42, .int (d : Int), .tuple [L ((6 : Int) : Q d), L ((6 : Int) : Q d)], .int (1 + (l.getD 2 0 : Int) % 4)] = some (true, .list ((orderT [] T2).map encTl)) := ec2
  have t3 := cuts_decided h64 p6 p6 d6 d6 hm (by omega) hT2
  -- over root 2
  haveI := nsq2
  have wh : f__law_wheel_of_three [] = some (true, .list (wheelL.map encTl)) := by
    show _ = some (true, PyData.list [.tuple [L (0 : Q 2), L (0 : Q 2), L (2 : Q 2), L (1 : Q 2)], .tuple [L (2 : Q 2), L (0 : Q 2), L (1 : Q 2), L (2 : Q 2)], .tuple [L (0 : Q 2), L (1 : Q 2), L (1 : Q 2), L (2 : Q 2)], .tuple [L (1 : Q 2), L (1 : Q 2), L (1 : Q 2), L (1 : Q 2)], .tuple [L (1 : Q 2), L (2 : Q 2), L (2 : Q 2), L (1 : Q 2)]])
    unfold f__law_wheel_of_three evDef ir__law_wheel_of_three
    simp only [q_wipeR_1, q_wipeR_2, q_asg_1, q_asg_2, q_asg_3, q_asg_4, q_asg_5, q_asg_6, q_asg_7, q_asgR_1, q_ownedArg_1, q_ownedArgs_1, q_ownedArgs_2, q_itemsOf_1, q_itemsOf_2, q_evE_1, q_evE_2, q_evE_3, q_evE_4, q_evE_5, q_evE_6, q_evE_7, q_evE_8, q_evE_9, q_evE_10, q_evE_11, q_evE_12, q_evE_13, q_evE_14, q_evE_15, q_evE_16, q_evE_17, q_evE_18, q_evE_19, q_evE_20, q_evEs_1, q_evEs_2, q_evP_1, q_evP_2, q_evC_1, q_evC_2, q_evI_1, q_evI_2, q_evRet_1, q_evS_1, q_evS_2, q_evS_3, q_evS_4, q_evS_5, q_evS_6, q_evS_7, q_evS_8, q_evS_9, q_evS_10, q_evS_11, q_evS_12, q_evS_13, q_evS_14, q_evS_15, q_evS_16, q_evSs_1, q_evSs_2, q_oa_0, q_rt_0, q_oa_1, q_rt_1, q_oa_2, q_rt_2, q_oa_3, q_rt_3, q_oa_4, q_rt_4, q_oa_5, q_rt_5, q_oa_6, q_rt_6, q_oa_7, q_rt_7, q_oa_8, q_rt_8, q_oa_9, q_rt_9, q_oa_10, q_rt_10, q_oa_11, q_rt_11, q_oa_12, q_rt_12, q_oa_13, q_rt_13, q_oa_14, q_rt_14, q_oa_15, q_rt_15, q_oa_16, q_rt_16, q_oa_17, q_rt_17, q_oa_18, q_rt_18, q_ar_0, q_ar_1, q_ar_2, asI_i, q_ret, q_bind, q_bindn, q_map, q_mapn, q_evT, q_own, startR, List.getElem?_cons_succ, List.getElem?_cons_zero, List.set_cons_succ, List.set_cons_zero, List.map_cons, List.map_nil, List.replicate, List.length_cons, List.length_nil, List.append_eq, List.nil_append, List.cons_append, Bool.and_true, Bool.true_and, Bool.and_false, Bool.false_and, Bool.not_true, Bool.not_false, if_true, if_false, reduceCtorEq, Nat.reduceSub, Nat.reduceAdd, Nat.reduceLeDiff, Bool.false_eq_true, Bool.or_false, Bool.false_or, ite_true, ite_false, lenOk_0, lenOk_1, lenOk_2, lenOk_3, lenOk_4, lenOk_5, lenOk_6, lenOk_7, lenOk_8, i_add, i_sub, i_neg, i_asI, N_int, i_inti, i_intb, decide_true, decide_false, r0, r1, r2]
  let tr : Q d → Q 2 := fun x => ⟨x.a, x.b⟩
  have htr : ∀ x : Q d, L x = L (tr x) := fun x => rfl
  have hdt : ∀ x : Q d, Dn 12 96 x → Dn 12 96 (tr x) := fun x h => h
  have hm2 : DnM ((tr (A 14), tr (A 17), tr (A 20), tr (A 23)) : Ms 2) := ⟨hdt _ m1, hdt _ m2, hdt _ m3, hdt _ m4⟩
  have em2 : encM (A 14, A 17, A 20, A 23) = encM ((tr (A 14), tr (A 17), tr (A 20), tr (A 23)) : Ms 2) := rfl
  obtain ⟨l1, l2, l3⟩ := lt2
  obtain ⟨n1, n2, n3, n4, n5, n6, n7⟩ := num2
  have p3' : (0 : Q 2) < 3 := by grind
  have nn : ∀ n : Nat, n < 50 → Dn 12 600 (((n : Nat) : Int) : Q 2) := fun n hn => by
    have := dn_mk (d := 2) (p := (n : Int)) (q := 0) (s := 1) (k := 12) (P := 50) (by decide) (by omega) (by decide)
    have e : mkQ 2 (n : Int) 0 ((1 : Nat) : Int) = ((n : Int) : Q 2) := mkQ_of (by decide) (by show ((n : Int) : Rat) * ((1 : Int) : Rat) = _; have : ((1 : Int) : Rat) = 1 := rfl; rw [this]; grind) (by show (0 : Rat) * ((1 : Int) : Rat) = _; decide +kernel)
    rw [e] at this
    exact this
  have n0 : Dn 12 600 (0 : Q 2) := nn 0 (by decide)
  have nn1 : Dn 12 600 (1 : Q 2) := nn 1 (by decide)
  have nn2 : Dn 12 600 (2 : Q 2) := nn 2 (by decide)
  have nn3 : Dn 12 96 (3 : Q 2) := by
    have := dn_mk (d := 2) (p := 3) (q := 0) (s := 1) (k := 12) (P := 8) (by decide) (by decide) (by decide)
    have e : mkQ 2 3 0 ((1 : Nat) : Int) = (3 : Q 2) := mkQ_of (by decide) (by show (3 : Rat) * ((1 : Int) : Rat) = _; decide +kernel) (by show (0 : Rat) * ((1 : Int) : Rat) = _; decide +kernel)
    rw [e] at this
    exact this
  have djW : Dj wheelL := by
    unfold Dj wheelL
    simp only [List.pairwise_cons, List.mem_cons, List.not_mem_nil, or_false, forall_eq_or_imp, forall_eq, List.Pairwise.nil, and_true, false_imp_iff, implies_true, apart, fx, fy, fr, ft, n1, n2, n3, n4, n5, n6]
    refine ⟨⟨?_, ?_, ?_, ?_⟩, ⟨?_, ?_, ?_⟩, ⟨?_, ?_⟩, ?_⟩ <;> grind
  have p2 : (0 : Q 2) < 2 := by grind
  have nbW : Nb wheelL (0, 0, 3, 3) := by
    have h := nb_wheel (x := (0 : Q 2)) (y := 0) (w := 3) (h := 3) (a := 1) (b := 1) (c := 2) (e := 2) (i := 1) (j := 1) l1 l1 p2 p2 l1 l1 n5 n5 n6 n6
    rw [n1, n2] at h
    refine h.perm ?_
    unfold wheelL
    refine .cons _ (.cons _ ?_)
    exact List.perm_append_comm (l₁ := [((0, 1, 1, 2) : Tl 2), (1, 1, 1, 1)]) (l₂ := [(1, 2, 2, 1)])
  have wsum : ∀ f : Q 2 → Q 2 → Q 2, (∀ x y h, f (x + y) h = f x h + f y h) → (∀ w x y, f w (x + y) = f w x + f w y) → qs (wheelL.map fun t => f t.2.2.1 t.2.2.2) = f 3 3 := fun f fl fr => by
    show f 2 1 + (f 1 2 + (f 1 2 + (f 1 1 + (f 2 1 + 0)))) = _
    have q1 := fl 2 1 1
    have q2 := fr 1 1 1
    have q3 := fl 2 1 3
    have q4 := fr 2 2 1
    have q5 := fr 1 2 1
    have q6 := fl 1 1 1
    have q7 := fr 2 1 1
    rw [n3] at q1 q3 q4 q5
    rw [n6] at q2 q6 q7
    grind
  have t5 := decided_is (d := 2) (W := 3) (H := 3) (T := wheelL) (S := 12) (B := 600) (by decide) (by decide) (by decide) (by decide) (fun t ht => by
    unfold wheelL at ht
    simp only [List.mem_cons, List.not_mem_nil, or_false] at ht
    rcases ht with rfl | rfl | rfl | rfl | rfl
    · exact ⟨n0, n0, nn2, nn1⟩
    · exact ⟨nn2, n0, nn1, nn2⟩
    · exact ⟨n0, nn1, nn1, nn2⟩
    · exact ⟨nn1, nn1, nn1, nn1⟩
    · exact ⟨nn1, nn2, nn2, nn1⟩) ⟨p3', p3'⟩ nn3 nn3 hm2 fitW nbW djW (by decide) (wsum (fun a b => a * b) (fun x y h => by grind) (fun w x y => by grind)) (wsum _ (meas_add _).1 (meas_add _).2)
  rw [← em2] at t5
  have h6 : (0 : Int) < 6 := by decide
  have h4 : (0 : Int) < 4 := by decide
  unfold f_law evDef ir_law
  simp only [q_wipeR_1, q_wipeR_2, q_asg_1, q_asg_2, q_asg_3, q_asg_4, q_asg_5, q_asg_6, q_asg_7, q_asgR_1, q_ownedArg_1, q_ownedArgs_1, q_ownedArgs_2, q_itemsOf_1, q_itemsOf_2, q_evE_1, q_evE_2, q_evE_3, q_evE_4, q_evE_5, q_evE_6, q_evE_7, q_evE_8, q_evE_9, q_evE_10, q_evE_11, q_evE_12, q_evE_13, q_evE_14, q_evE_15, q_evE_16, q_evE_17, q_evE_18, q_evE_19, q_evE_20, q_evEs_1, q_evEs_2, q_evP_1, q_evP_2, q_evC_1, q_evC_2, q_evI_1, q_evI_2, q_evRet_1, q_evS_1, q_evS_2, q_evS_3, q_evS_4, q_evS_5, q_evS_6, q_evS_7, q_evS_8, q_evS_9, q_evS_10, q_evS_11, q_evS_12, q_evS_13, q_evS_14, q_evS_15, q_evS_16, q_evSs_1, q_evSs_2, q_oa_0, q_rt_0, q_oa_1, q_rt_1, q_oa_2, q_rt_2, q_oa_3, q_rt_3, q_oa_4, q_rt_4, q_oa_5, q_rt_5, q_oa_6, q_rt_6, q_oa_7, q_rt_7, q_oa_8, q_rt_8, q_oa_9, q_rt_9, q_oa_10, q_rt_10, q_oa_11, q_rt_11, q_oa_12, q_rt_12, q_oa_13, q_rt_13, q_oa_14, q_rt_14, q_oa_15, q_rt_15, q_oa_16, q_rt_16, q_oa_17, q_rt_17, q_oa_18, q_rt_18, q_ar_0, q_ar_1, q_ar_2, asI_i, q_ret, q_bind, q_bindn, q_map, q_mapn, q_evT, q_own, startR, List.getElem?_cons_succ, List.getElem?_cons_zero, List.set_cons_succ, List.set_cons_zero, List.map_cons, List.map_nil, List.replicate, List.length_cons, List.length_nil, List.append_eq, List.nil_append, List.cons_append, Bool.and_true, Bool.true_and, Bool.and_false, Bool.false_and, Bool.not_true, Bool.not_false, if_true, if_false, reduceCtorEq, Nat.reduceSub, Nat.reduceAdd, Nat.reduceLeDiff, Bool.false_eq_true, Bool.or_false, Bool.false_or, ite_true, ite_false, lenOk_0, lenOk_1, lenOk_2, lenOk_3, lenOk_4, lenOk_5, lenOk_6, lenOk_7, lenOk_8, i_add, i_sub, i_neg, i_asI, N_int, i_inti, i_intb, decide_true, decide_false, e1, x0, er, a8, a11, cmp, bt, hme, x1, i_mod h6, ec, t1, e6, x2, i_mod h4, ec2, t3, r3, wh]
  have t5 : f__law_decided [.int 2, .tuple [L (3 : Q 2), L (3 : Q 2)], .list (wheelL.map encTl), encM (A 14, A 17, A 20, A 23)] = some (false, .bool true) := t5
  simp only [q_wipeR_1, q_wipeR_2, q_asg_1, q_asg_2, q_asg_3, q_asg_4, q_asg_5, q_asg_6, q_asg_7, q_asgR_1, q_ownedArg_1, q_ownedArgs_1, q_ownedArgs_2, q_itemsOf_1, q_itemsOf_2, q_evE_1, q_evE_2, q_evE_3, q_evE_4, q_evE_5, q_evE_6, q_evE_7, q_evE_8, q_evE_9, q_evE_10, q_evE_11, q_evE_12, q_evE_13, q_evE_14, q_evE_15, q_evE_16, q_evE_17, q_evE_18, q_evE_19, q_evE_20, q_evEs_1, q_evEs_2, q_evP_1, q_evP_2, q_evC_1, q_evC_2, q_evI_1, q_evI_2, q_evRet_1, q_evS_1, q_evS_2, q_evS_3, q_evS_4, q_evS_5, q_evS_6, q_evS_7, q_evS_8, q_evS_9, q_evS_10, q_evS_11, q_evS_12, q_evS_13, q_evS_14, q_evS_15, q_evS_16, q_evSs_1, q_evSs_2, q_oa_0, q_rt_0, q_oa_1, q_rt_1, q_oa_2, q_rt_2, q_oa_3, q_rt_3, q_oa_4, q_rt_4, q_oa_5, q_rt_5, q_oa_6, q_rt_6, q_oa_7, q_rt_7, q_oa_8, q_rt_8, q_oa_9, q_rt_9, q_oa_10, q_rt_10, q_oa_11, q_rt_11, q_oa_12, q_rt_12, q_oa_13, q_rt_13, q_oa_14, q_rt_14, q_oa_15, q_rt_15, q_oa_16, q_rt_16, q_oa_17, q_rt_17, q_oa_18, q_rt_18, q_ar_0, q_ar_1, q_ar_2, asI_i, q_ret, q_bind, q_bindn, q_map, q_mapn, q_evT, q_own, startR, List.getElem?_cons_succ, List.getElem?_cons_zero, List.set_cons_succ, List.set_cons_zero, List.map_cons, List.map_nil, List.replicate, List.length_cons, List.length_nil, List.append_eq, List.nil_append, List.cons_append, Bool.and_true, Bool.true_and, Bool.and_false, Bool.false_and, Bool.not_true, Bool.not_false, if_true, if_false, reduceCtorEq, Nat.reduceSub, Nat.reduceAdd, Nat.reduceLeDiff, Bool.false_eq_true, Bool.or_false, Bool.false_or, ite_true, ite_false, lenOk_0, lenOk_1, lenOk_2, lenOk_3, lenOk_4, lenOk_5, lenOk_6, lenOk_7, lenOk_8, i_add, i_sub, i_neg, i_asI, N_int, i_inti, i_intb, decide_true, decide_false, t5]
end K83

set_option maxHeartbeats 4000000
namespace K83
open PySem PySem.Spec PyProof.Rows L2 PV
theorem all_mk {l : PySem.W.OpenLaw} {w : World} {K : PySem.W.Frag} {h : Heap} {mg : Str → Option Value} {fa : Addr} (X : K.In h) (G : h.Ns mainGlobals mg) (hfa : mg "law" = some (.ref fa))
    {f0 : Addr} {od0 an0 : Option Addr} {sl0 : Array (Option Value)} {oc0 kV0 dc0 pm0 cd0 ct0 : Value}
    (a0 : PySem.W.nsIn K mainGlobals "common_divisor" = some (some (.ref f0))) (l0 : K.lookup f0 = some ⟨oc0, od0, .func (PySem.W.fnOf "common_divisor" "common_divisor" (defArgs (topS 1)) (defBody (topS 1)) (defScope (topS 1)) .none kV0 dc0 pm0 an0 cd0 ct0), sl0⟩) (c0 : PySem.W.codeIn K cd0 "common_divisor" = true) (k0 : PySem.W.keepIn K (.ref f0) = true)
    {f1 : Addr} {od1 an1 : Option Addr} {sl1 : Array (Option Value)} {oc1 kV1 dc1 pm1 cd1 ct1 : Value}
    (a1 : PySem.W.nsIn K mainGlobals "common_of_three" = some (some (.ref f1))) (l1 : K.lookup f1 = some ⟨oc1, od1, .func (PySem.W.fnOf "common_of_three" "common_of_three" (defArgs (topS 2)) (defBody (topS 2)) (defScope (topS 2)) .none kV1 dc1 pm1 an1 cd1 ct1), sl1⟩) (c1 : PySem.W.codeIn K cd1 "common_of_three" = true) (k1 : PySem.W.keepIn K (.ref f1) = true)
    {f2 : Addr} {od2 an2 : Option Addr} {sl2 : Array (Option Value)} {oc2 kV2 dc2 pm2 cd2 ct2 : Value}
    (a2 : PySem.W.nsIn K mainGlobals "length" = some (some (.ref f2))) (l2 : K.lookup f2 = some ⟨oc2, od2, .func (PySem.W.fnOf "length" "length" (defArgs (topS 3)) (defBody (topS 3)) (defScope (topS 3)) .none kV2 dc2 pm2 an2 cd2 ct2), sl2⟩) (c2 : PySem.W.codeIn K cd2 "length" = true) (k2 : PySem.W.keepIn K (.ref f2) = true)
    {f3 : Addr} {od3 an3 : Option Addr} {sl3 : Array (Option Value)} {oc3 kV3 dc3 pm3 cd3 ct3 : Value}
    (a3 : PySem.W.nsIn K mainGlobals "plus" = some (some (.ref f3))) (l3 : K.lookup f3 = some ⟨oc3, od3, .func (PySem.W.fnOf "plus" "plus" (defArgs (topS 4)) (defBody (topS 4)) (defScope (topS 4)) .none kV3 dc3 pm3 an3 cd3 ct3), sl3⟩) (c3 : PySem.W.codeIn K cd3 "plus" = true) (k3 : PySem.W.keepIn K (.ref f3) = true)
    {f4 : Addr} {od4 an4 : Option Addr} {sl4 : Array (Option Value)} {oc4 kV4 dc4 pm4 cd4 ct4 : Value}
    (a4 : PySem.W.nsIn K mainGlobals "negative" = some (some (.ref f4))) (l4 : K.lookup f4 = some ⟨oc4, od4, .func (PySem.W.fnOf "negative" "negative" (defArgs (topS 5)) (defBody (topS 5)) (defScope (topS 5)) .none kV4 dc4 pm4 an4 cd4 ct4), sl4⟩) (c4 : PySem.W.codeIn K cd4 "negative" = true) (k4 : PySem.W.keepIn K (.ref f4) = true)
    {f5 : Addr} {od5 an5 : Option Addr} {sl5 : Array (Option Value)} {oc5 kV5 dc5 pm5 cd5 ct5 : Value}
    (a5 : PySem.W.nsIn K mainGlobals "minus" = some (some (.ref f5))) (l5 : K.lookup f5 = some ⟨oc5, od5, .func (PySem.W.fnOf "minus" "minus" (defArgs (topS 6)) (defBody (topS 6)) (defScope (topS 6)) .none kV5 dc5 pm5 an5 cd5 ct5), sl5⟩) (c5 : PySem.W.codeIn K cd5 "minus" = true) (k5 : PySem.W.keepIn K (.ref f5) = true)
    {f6 : Addr} {od6 an6 : Option Addr} {sl6 : Array (Option Value)} {oc6 kV6 dc6 pm6 cd6 ct6 : Value}
    (a6 : PySem.W.nsIn K mainGlobals "sign_of_number" = some (some (.ref f6))) (l6 : K.lookup f6 = some ⟨oc6, od6, .func (PySem.W.fnOf "sign_of_number" "sign_of_number" (defArgs (topS 8)) (defBody (topS 8)) (defScope (topS 8)) .none kV6 dc6 pm6 an6 cd6 ct6), sl6⟩) (c6 : PySem.W.codeIn K cd6 "sign_of_number" = true) (k6 : PySem.W.keepIn K (.ref f6) = true)
    {f7 : Addr} {od7 an7 : Option Addr} {sl7 : Array (Option Value)} {oc7 kV7 dc7 pm7 cd7 ct7 : Value}
    (a7 : PySem.W.nsIn K mainGlobals "sign_of" = some (some (.ref f7))) (l7 : K.lookup f7 = some ⟨oc7, od7, .func (PySem.W.fnOf "sign_of" "sign_of" (defArgs (topS 9)) (defBody (topS 9)) (defScope (topS 9)) .none kV7 dc7 pm7 an7 cd7 ct7), sl7⟩) (c7 : PySem.W.codeIn K cd7 "sign_of" = true) (k7 : PySem.W.keepIn K (.ref f7) = true)
    {f8 : Addr} {od8 an8 : Option Addr} {sl8 : Array (Option Value)} {oc8 kV8 dc8 pm8 cd8 ct8 : Value}
    (a8 : PySem.W.nsIn K mainGlobals "compare" = some (some (.ref f8))) (l8 : K.lookup f8 = some ⟨oc8, od8, .func (PySem.W.fnOf "compare" "compare" (defArgs (topS 10)) (defBody (topS 10)) (defScope (topS 10)) .none kV8 dc8 pm8 an8 cd8 ct8), sl8⟩) (c8 : PySem.W.codeIn K cd8 "compare" = true) (k8 : PySem.W.keepIn K (.ref f8) = true)
    {f9 : Addr} {od9 an9 : Option Addr} {sl9 : Array (Option Value)} {oc9 kV9 dc9 pm9 cd9 ct9 : Value}
    (a9 : PySem.W.nsIn K mainGlobals "right_of" = some (some (.ref f9))) (l9 : K.lookup f9 = some ⟨oc9, od9, .func (PySem.W.fnOf "right_of" "right_of" (defArgs (topS 12)) (defBody (topS 12)) (defScope (topS 12)) .none kV9 dc9 pm9 an9 cd9 ct9), sl9⟩) (c9 : PySem.W.codeIn K cd9 "right_of" = true) (k9 : PySem.W.keepIn K (.ref f9) = true)
    {f10 : Addr} {od10 an10 : Option Addr} {sl10 : Array (Option Value)} {oc10 kV10 dc10 pm10 cd10 ct10 : Value}
    (a10 : PySem.W.nsIn K mainGlobals "top_of" = some (some (.ref f10))) (l10 : K.lookup f10 = some ⟨oc10, od10, .func (PySem.W.fnOf "top_of" "top_of" (defArgs (topS 13)) (defBody (topS 13)) (defScope (topS 13)) .none kV10 dc10 pm10 an10 cd10 ct10), sl10⟩) (c10 : PySem.W.codeIn K cd10 "top_of" = true) (k10 : PySem.W.keepIn K (.ref f10) = true)
    {f11 : Addr} {od11 an11 : Option Addr} {sl11 : Array (Option Value)} {oc11 kV11 dc11 pm11 cd11 ct11 : Value}
    (a11 : PySem.W.nsIn K mainGlobals "comes_before" = some (some (.ref f11))) (l11 : K.lookup f11 = some ⟨oc11, od11, .func (PySem.W.fnOf "comes_before" "comes_before" (defArgs (topS 14)) (defBody (topS 14)) (defScope (topS 14)) .none kV11 dc11 pm11 an11 cd11 ct11), sl11⟩) (c11 : PySem.W.codeIn K cd11 "comes_before" = true) (k11 : PySem.W.keepIn K (.ref f11) = true)
    {f12 : Addr} {od12 an12 : Option Addr} {sl12 : Array (Option Value)} {oc12 kV12 dc12 pm12 cd12 ct12 : Value}
    (a12 : PySem.W.nsIn K mainGlobals "merged" = some (some (.ref f12))) (l12 : K.lookup f12 = some ⟨oc12, od12, .func (PySem.W.fnOf "merged" "merged" (defArgs (topS 16)) (defBody (topS 16)) (defScope (topS 16)) .none kV12 dc12 pm12 an12 cd12 ct12), sl12⟩) (c12 : PySem.W.codeIn K cd12 "merged" = true) (k12 : PySem.W.keepIn K (.ref f12) = true)
    {f13 : Addr} {od13 an13 : Option Addr} {sl13 : Array (Option Value)} {oc13 kV13 dc13 pm13 cd13 ct13 : Value}
    (a13 : PySem.W.nsIn K mainGlobals "in_order" = some (some (.ref f13))) (l13 : K.lookup f13 = some ⟨oc13, od13, .func (PySem.W.fnOf "in_order" "in_order" (defArgs (topS 17)) (defBody (topS 17)) (defScope (topS 17)) .none kV13 dc13 pm13 an13 cd13 ct13), sl13⟩) (c13 : PySem.W.codeIn K cd13 "in_order" = true) (k13 : PySem.W.keepIn K (.ref f13) = true)
    {f14 : Addr} {od14 an14 : Option Addr} {sl14 : Array (Option Value)} {oc14 kV14 dc14 pm14 cd14 ct14 : Value}
    (a14 : PySem.W.nsIn K mainGlobals "edges_of" = some (some (.ref f14))) (l14 : K.lookup f14 = some ⟨oc14, od14, .func (PySem.W.fnOf "edges_of" "edges_of" (defArgs (topS 19)) (defBody (topS 19)) (defScope (topS 19)) .none kV14 dc14 pm14 an14 cd14 ct14), sl14⟩) (c14 : PySem.W.codeIn K cd14 "edges_of" = true) (k14 : PySem.W.keepIn K (.ref f14) = true)
    {f15 : Addr} {od15 an15 : Option Addr} {sl15 : Array (Option Value)} {oc15 kV15 dc15 pm15 cd15 ct15 : Value}
    (a15 : PySem.W.nsIn K mainGlobals "lying_lines" = some (some (.ref f15))) (l15 : K.lookup f15 = some ⟨oc15, od15, .func (PySem.W.fnOf "lying_lines" "lying_lines" (defArgs (topS 20)) (defBody (topS 20)) (defScope (topS 20)) .none kV15 dc15 pm15 an15 cd15 ct15), sl15⟩) (c15 : PySem.W.codeIn K cd15 "lying_lines" = true) (k15 : PySem.W.keepIn K (.ref f15) = true)
    {f16 : Addr} {od16 an16 : Option Addr} {sl16 : Array (Option Value)} {oc16 kV16 dc16 pm16 cd16 ct16 : Value}
    (a16 : PySem.W.nsIn K mainGlobals "line_at" = some (some (.ref f16))) (l16 : K.lookup f16 = some ⟨oc16, od16, .func (PySem.W.fnOf "line_at" "line_at" (defArgs (topS 21)) (defBody (topS 21)) (defScope (topS 21)) .none kV16 dc16 pm16 an16 cd16 ct16), sl16⟩) (c16 : PySem.W.codeIn K cd16 "line_at" = true) (k16 : PySem.W.keepIn K (.ref f16) = true)
    {f17 : Addr} {od17 an17 : Option Addr} {sl17 : Array (Option Value)} {oc17 kV17 dc17 pm17 cd17 ct17 : Value}
    (a17 : PySem.W.nsIn K mainGlobals "net_of" = some (some (.ref f17))) (l17 : K.lookup f17 = some ⟨oc17, od17, .func (PySem.W.fnOf "net_of" "net_of" (defArgs (topS 22)) (defBody (topS 22)) (defScope (topS 22)) .none kV17 dc17 pm17 an17 cd17 ct17), sl17⟩) (c17 : PySem.W.codeIn K cd17 "net_of" = true) (k17 : PySem.W.keepIn K (.ref f17) = true)
    {f18 : Addr} {od18 an18 : Option Addr} {sl18 : Array (Option Value)} {oc18 kV18 dc18 pm18 cd18 ct18 : Value}
    (a18 : PySem.W.nsIn K mainGlobals "_law_draws" = some (some (.ref f18))) (l18 : K.lookup f18 = some ⟨oc18, od18, .func (PySem.W.fnOf "_law_draws" "_law_draws" (defArgs (topS 24)) (defBody (topS 24)) (defScope (topS 24)) .none kV18 dc18 pm18 an18 cd18 ct18), sl18⟩) (c18 : PySem.W.codeIn K cd18 "_law_draws" = true) (k18 : PySem.W.keepIn K (.ref f18) = true)
    {f19 : Addr} {od19 an19 : Option Addr} {sl19 : Array (Option Value)} {oc19 kV19 dc19 pm19 cd19 ct19 : Value}
    (a19 : PySem.W.nsIn K mainGlobals "_law_cell" = some (some (.ref f19))) (l19 : K.lookup f19 = some ⟨oc19, od19, .func (PySem.W.fnOf "_law_cell" "_law_cell" (defArgs (topS 25)) (defBody (topS 25)) (defScope (topS 25)) .none kV19 dc19 pm19 an19 cd19 ct19), sl19⟩) (c19 : PySem.W.codeIn K cd19 "_law_cell" = true) (k19 : PySem.W.keepIn K (.ref f19) = true)
    {f20 : Addr} {od20 an20 : Option Addr} {sl20 : Array (Option Value)} {oc20 kV20 dc20 pm20 cd20 ct20 : Value}
    (a20 : PySem.W.nsIn K mainGlobals "_law_root" = some (some (.ref f20))) (l20 : K.lookup f20 = some ⟨oc20, od20, .func (PySem.W.fnOf "_law_root" "_law_root" (defArgs (topS 26)) (defBody (topS 26)) (defScope (topS 26)) .none kV20 dc20 pm20 an20 cd20 ct20), sl20⟩) (c20 : PySem.W.codeIn K cd20 "_law_root" = true) (k20 : PySem.W.keepIn K (.ref f20) = true)
    {f21 : Addr} {od21 an21 : Option Addr} {sl21 : Array (Option Value)} {oc21 kV21 dc21 pm21 cd21 ct21 : Value}
    (a21 : PySem.W.nsIn K mainGlobals "_law_common" = some (some (.ref f21))) (l21 : K.lookup f21 = some ⟨oc21, od21, .func (PySem.W.fnOf "_law_common" "_law_common" (defArgs (topS 27)) (defBody (topS 27)) (defScope (topS 27)) .none kV21 dc21 pm21 an21 cd21 ct21), sl21⟩) (c21 : PySem.W.codeIn K cd21 "_law_common" = true) (k21 : PySem.W.keepIn K (.ref f21) = true)
    {f22 : Addr} {od22 an22 : Option Addr} {sl22 : Array (Option Value)} {oc22 kV22 dc22 pm22 cd22 ct22 : Value}
    (a22 : PySem.W.nsIn K mainGlobals "_law_length" = some (some (.ref f22))) (l22 : K.lookup f22 = some ⟨oc22, od22, .func (PySem.W.fnOf "_law_length" "_law_length" (defArgs (topS 28)) (defBody (topS 28)) (defScope (topS 28)) .none kV22 dc22 pm22 an22 cd22 ct22), sl22⟩) (c22 : PySem.W.codeIn K cd22 "_law_length" = true) (k22 : PySem.W.keepIn K (.ref f22) = true)
    {f23 : Addr} {od23 an23 : Option Addr} {sl23 : Array (Option Value)} {oc23 kV23 dc23 pm23 cd23 ct23 : Value}
    (a23 : PySem.W.nsIn K mainGlobals "_law_whole" = some (some (.ref f23))) (l23 : K.lookup f23 = some ⟨oc23, od23, .func (PySem.W.fnOf "_law_whole" "_law_whole" (defArgs (topS 29)) (defBody (topS 29)) (defScope (topS 29)) .none kV23 dc23 pm23 an23 cd23 ct23), sl23⟩) (c23 : PySem.W.codeIn K cd23 "_law_whole" = true) (k23 : PySem.W.keepIn K (.ref f23) = true)
    {f24 : Addr} {od24 an24 : Option Addr} {sl24 : Array (Option Value)} {oc24 kV24 dc24 pm24 cd24 ct24 : Value}
    (a24 : PySem.W.nsIn K mainGlobals "_law_plus" = some (some (.ref f24))) (l24 : K.lookup f24 = some ⟨oc24, od24, .func (PySem.W.fnOf "_law_plus" "_law_plus" (defArgs (topS 30)) (defBody (topS 30)) (defScope (topS 30)) .none kV24 dc24 pm24 an24 cd24 ct24), sl24⟩) (c24 : PySem.W.codeIn K cd24 "_law_plus" = true) (k24 : PySem.W.keepIn K (.ref f24) = true)
    {f25 : Addr} {od25 an25 : Option Addr} {sl25 : Array (Option Value)} {oc25 kV25 dc25 pm25 cd25 ct25 : Value}
    (a25 : PySem.W.nsIn K mainGlobals "_law_minus" = some (some (.ref f25))) (l25 : K.lookup f25 = some ⟨oc25, od25, .func (PySem.W.fnOf "_law_minus" "_law_minus" (defArgs (topS 31)) (defBody (topS 31)) (defScope (topS 31)) .none kV25 dc25 pm25 an25 cd25 ct25), sl25⟩) (c25 : PySem.W.codeIn K cd25 "_law_minus" = true) (k25 : PySem.W.keepIn K (.ref f25) = true)
    {f26 : Addr} {od26 an26 : Option Addr} {sl26 : Array (Option Value)} {oc26 kV26 dc26 pm26 cd26 ct26 : Value}
    (a26 : PySem.W.nsIn K mainGlobals "_law_times" = some (some (.ref f26))) (l26 : K.lookup f26 = some ⟨oc26, od26, .func (PySem.W.fnOf "_law_times" "_law_times" (defArgs (topS 32)) (defBody (topS 32)) (defScope (topS 32)) .none kV26 dc26 pm26 an26 cd26 ct26), sl26⟩) (c26 : PySem.W.codeIn K cd26 "_law_times" = true) (k26 : PySem.W.keepIn K (.ref f26) = true)
    {f27 : Addr} {od27 an27 : Option Addr} {sl27 : Array (Option Value)} {oc27 kV27 dc27 pm27 cd27 ct27 : Value}
    (a27 : PySem.W.nsIn K mainGlobals "_law_twin" = some (some (.ref f27))) (l27 : K.lookup f27 = some ⟨oc27, od27, .func (PySem.W.fnOf "_law_twin" "_law_twin" (defArgs (topS 33)) (defBody (topS 33)) (defScope (topS 33)) .none kV27 dc27 pm27 an27 cd27 ct27), sl27⟩) (c27 : PySem.W.codeIn K cd27 "_law_twin" = true) (k27 : PySem.W.keepIn K (.ref f27) = true)
    {f28 : Addr} {od28 an28 : Option Addr} {sl28 : Array (Option Value)} {oc28 kV28 dc28 pm28 cd28 ct28 : Value}
    (a28 : PySem.W.nsIn K mainGlobals "_law_sign" = some (some (.ref f28))) (l28 : K.lookup f28 = some ⟨oc28, od28, .func (PySem.W.fnOf "_law_sign" "_law_sign" (defArgs (topS 34)) (defBody (topS 34)) (defScope (topS 34)) .none kV28 dc28 pm28 an28 cd28 ct28), sl28⟩) (c28 : PySem.W.codeIn K cd28 "_law_sign" = true) (k28 : PySem.W.keepIn K (.ref f28) = true)
    {f29 : Addr} {od29 an29 : Option Addr} {sl29 : Array (Option Value)} {oc29 kV29 dc29 pm29 cd29 ct29 : Value}
    (a29 : PySem.W.nsIn K mainGlobals "_law_less" = some (some (.ref f29))) (l29 : K.lookup f29 = some ⟨oc29, od29, .func (PySem.W.fnOf "_law_less" "_law_less" (defArgs (topS 35)) (defBody (topS 35)) (defScope (topS 35)) .none kV29 dc29 pm29 an29 cd29 ct29), sl29⟩) (c29 : PySem.W.codeIn K cd29 "_law_less" = true) (k29 : PySem.W.keepIn K (.ref f29) = true)
    {f30 : Addr} {od30 an30 : Option Addr} {sl30 : Array (Option Value)} {oc30 kV30 dc30 pm30 cd30 ct30 : Value}
    (a30 : PySem.W.nsIn K mainGlobals "_law_above" = some (some (.ref f30))) (l30 : K.lookup f30 = some ⟨oc30, od30, .func (PySem.W.fnOf "_law_above" "_law_above" (defArgs (topS 36)) (defBody (topS 36)) (defScope (topS 36)) .none kV30 dc30 pm30 an30 cd30 ct30), sl30⟩) (c30 : PySem.W.codeIn K cd30 "_law_above" = true) (k30 : PySem.W.keepIn K (.ref f30) = true)
    {f31 : Addr} {od31 an31 : Option Addr} {sl31 : Array (Option Value)} {oc31 kV31 dc31 pm31 cd31 ct31 : Value}
    (a31 : PySem.W.nsIn K mainGlobals "_law_before" = some (some (.ref f31))) (l31 : K.lookup f31 = some ⟨oc31, od31, .func (PySem.W.fnOf "_law_before" "_law_before" (defArgs (topS 37)) (defBody (topS 37)) (defScope (topS 37)) .none kV31 dc31 pm31 an31 cd31 ct31), sl31⟩) (c31 : PySem.W.codeIn K cd31 "_law_before" = true) (k31 : PySem.W.keepIn K (.ref f31) = true)
    {f32 : Addr} {od32 an32 : Option Addr} {sl32 : Array (Option Value)} {oc32 kV32 dc32 pm32 cd32 ct32 : Value}
    (a32 : PySem.W.nsIn K mainGlobals "_law_in_order" = some (some (.ref f32))) (l32 : K.lookup f32 = some ⟨oc32, od32, .func (PySem.W.fnOf "_law_in_order" "_law_in_order" (defArgs (topS 38)) (defBody (topS 38)) (defScope (topS 38)) .none kV32 dc32 pm32 an32 cd32 ct32), sl32⟩) (c32 : PySem.W.codeIn K cd32 "_law_in_order" = true) (k32 : PySem.W.keepIn K (.ref f32) = true)
    {f33 : Addr} {od33 an33 : Option Addr} {sl33 : Array (Option Value)} {oc33 kV33 dc33 pm33 cd33 ct33 : Value}
    (a33 : PySem.W.nsIn K mainGlobals "_law_split" = some (some (.ref f33))) (l33 : K.lookup f33 = some ⟨oc33, od33, .func (PySem.W.fnOf "_law_split" "_law_split" (defArgs (topS 39)) (defBody (topS 39)) (defScope (topS 39)) .none kV33 dc33 pm33 an33 cd33 ct33), sl33⟩) (c33 : PySem.W.codeIn K cd33 "_law_split" = true) (k33 : PySem.W.keepIn K (.ref f33) = true)
    {f34 : Addr} {od34 an34 : Option Addr} {sl34 : Array (Option Value)} {oc34 kV34 dc34 pm34 cd34 ct34 : Value}
    (a34 : PySem.W.nsIn K mainGlobals "_law_wheel" = some (some (.ref f34))) (l34 : K.lookup f34 = some ⟨oc34, od34, .func (PySem.W.fnOf "_law_wheel" "_law_wheel" (defArgs (topS 40)) (defBody (topS 40)) (defScope (topS 40)) .none kV34 dc34 pm34 an34 cd34 ct34), sl34⟩) (c34 : PySem.W.codeIn K cd34 "_law_wheel" = true) (k34 : PySem.W.keepIn K (.ref f34) = true)
    {f35 : Addr} {od35 an35 : Option Addr} {sl35 : Array (Option Value)} {oc35 kV35 dc35 pm35 cd35 ct35 : Value}
    (a35 : PySem.W.nsIn K mainGlobals "_law_cutting" = some (some (.ref f35))) (l35 : K.lookup f35 = some ⟨oc35, od35, .func (PySem.W.fnOf "_law_cutting" "_law_cutting" (defArgs (topS 41)) (defBody (topS 41)) (defScope (topS 41)) .none kV35 dc35 pm35 an35 cd35 ct35), sl35⟩) (c35 : PySem.W.codeIn K cd35 "_law_cutting" = true) (k35 : PySem.W.keepIn K (.ref f35) = true)
    {f36 : Addr} {od36 an36 : Option Addr} {sl36 : Array (Option Value)} {oc36 kV36 dc36 pm36 cd36 ct36 : Value}
    (a36 : PySem.W.nsIn K mainGlobals "_law_measure" = some (some (.ref f36))) (l36 : K.lookup f36 = some ⟨oc36, od36, .func (PySem.W.fnOf "_law_measure" "_law_measure" (defArgs (topS 42)) (defBody (topS 42)) (defScope (topS 42)) .none kV36 dc36 pm36 an36 cd36 ct36), sl36⟩) (c36 : PySem.W.codeIn K cd36 "_law_measure" = true) (k36 : PySem.W.keepIn K (.ref f36) = true)
    {f37 : Addr} {od37 an37 : Option Addr} {sl37 : Array (Option Value)} {oc37 kV37 dc37 pm37 cd37 ct37 : Value}
    (a37 : PySem.W.nsIn K mainGlobals "_law_wheel_of_three" = some (some (.ref f37))) (l37 : K.lookup f37 = some ⟨oc37, od37, .func (PySem.W.fnOf "_law_wheel_of_three" "_law_wheel_of_three" (defArgs (topS 43)) (defBody (topS 43)) (defScope (topS 43)) .none kV37 dc37 pm37 an37 cd37 ct37), sl37⟩) (c37 : PySem.W.codeIn K cd37 "_law_wheel_of_three" = true) (k37 : PySem.W.keepIn K (.ref f37) = true)
    {f38 : Addr} {od38 an38 : Option Addr} {sl38 : Array (Option Value)} {oc38 kV38 dc38 pm38 cd38 ct38 : Value}
    (a38 : PySem.W.nsIn K mainGlobals "_law_sum" = some (some (.ref f38))) (l38 : K.lookup f38 = some ⟨oc38, od38, .func (PySem.W.fnOf "_law_sum" "_law_sum" (defArgs (topS 44)) (defBody (topS 44)) (defScope (topS 44)) .none kV38 dc38 pm38 an38 cd38 ct38), sl38⟩) (c38 : PySem.W.codeIn K cd38 "_law_sum" = true) (k38 : PySem.W.keepIn K (.ref f38) = true)
    {f39 : Addr} {od39 an39 : Option Addr} {sl39 : Array (Option Value)} {oc39 kV39 dc39 pm39 cd39 ct39 : Value}
    (a39 : PySem.W.nsIn K mainGlobals "_law_decided" = some (some (.ref f39))) (l39 : K.lookup f39 = some ⟨oc39, od39, .func (PySem.W.fnOf "_law_decided" "_law_decided" (defArgs (topS 45)) (defBody (topS 45)) (defScope (topS 45)) .none kV39 dc39 pm39 an39 cd39 ct39), sl39⟩) (c39 : PySem.W.codeIn K cd39 "_law_decided" = true) (k39 : PySem.W.keepIn K (.ref f39) = true)
    {f40 : Addr} {od40 an40 : Option Addr} {sl40 : Array (Option Value)} {oc40 kV40 dc40 pm40 cd40 ct40 : Value}
    (a40 : PySem.W.nsIn K mainGlobals "law" = some (some (.ref f40))) (l40 : K.lookup f40 = some ⟨oc40, od40, .func (PySem.W.fnOf "law" "law" (defArgs (topS 46)) (defBody (topS 46)) (defScope (topS 46)) .none kV40 dc40 pm40 an40 cd40 ct40), sl40⟩) (c40 : PySem.W.codeIn K cd40 "law" = true) (k40 : PySem.W.keepIn K (.ref f40) = true)
    (z0 : PySem.W.nsIn K mainGlobals "len" = some none)
    (z1 : PySem.W.nsIn K mainGlobals "abs" = some none)
    (z2 : PySem.W.nsIn K mainGlobals "int" = some none)
    (z3 : PySem.W.nsIn K mainGlobals "min" = some none)
    (z4 : PySem.W.nsIn K mainGlobals "max" = some none)
    (z5 : PySem.W.nsIn K mainGlobals "sum" = some none)
    (z6 : PySem.W.nsIn K mainGlobals "sorted" = some none)
    (z7 : PySem.W.nsIn K mainGlobals "list" = some none)
    (z8 : PySem.W.nsIn K mainGlobals "tuple" = some none)
    (z9 : PySem.W.nsIn K mainGlobals "isinstance" = some none)
    (z10 : PySem.W.nsIn K mainGlobals "bool" = some none)
    (z11 : PySem.W.nsIn K mainGlobals "str" = some none)
    (z12 : PySem.W.nsIn K mainGlobals "range" = some none)
    (z13 : PySem.W.nsIn K mainGlobals "repr" = some none)
    (z14 : PySem.W.nsIn K mainGlobals "set" = some none)
    (C : CstOk K mg cst) :
    ∃ fd : FuncData, (∀ (s : Shared) (v : Value), BindsTo s fd ⟨[v], []⟩ [("script", v)]) ∧ ∀ base : Heap, K.In base → base.Ns mainGlobals mg → FnG l.prog w K mg base 41 fa fd ["script"] (spF K f_law) := by
  have e := hfa.symm.trans (PySem.W.mg_of X G a40)
  cases e
  have blt : ∀ x ∈ builtinsUsed, mg x = none := builtins_none (PySem.W.mg_none_of X G z0) (PySem.W.mg_none_of X G z1) (PySem.W.mg_none_of X G z2) (PySem.W.mg_none_of X G z3) (PySem.W.mg_none_of X G z4) (PySem.W.mg_none_of X G z5) (PySem.W.mg_none_of X G z6) (PySem.W.mg_none_of X G z7) (PySem.W.mg_none_of X G z8) (PySem.W.mg_none_of X G z9) (PySem.W.mg_none_of X G z10) (PySem.W.mg_none_of X G z11) (PySem.W.mg_none_of X G z12) (PySem.W.mg_none_of X G z13) (PySem.W.mg_none_of X G z14)
  have T0 : ∀ base : Heap, TabOk l.prog w K mg base 0 t_0 := fun _ => TabOk.nil
  have F0 := fun_mk (st := topS 1) l0 c0 k0
  have B0 := F0.binds (ps := ["first", "second"]) fun _ _ _ _ _ _ us hl => match us, hl with | [_, _], _ => rfl
  have T1 : ∀ base : Heap, TabOk l.prog w K mg base 1 t_1 := fun base => TabOk.more (T0 base) C blt (PySem.W.mg_of X G a0) F0 B0 sc_common_divisor cm_common_divisor rfl
  have F1 := fun_mk (st := topS 2) l1 c1 k1
  have B1 := F1.binds (ps := ["p", "q", "s"]) fun _ _ _ _ _ _ us hl => match us, hl with | [_, _, _], _ => rfl
  have T2 : ∀ base : Heap, TabOk l.prog w K mg base 2 t_2 := fun base => TabOk.more (T1 base) C blt (PySem.W.mg_of X G a1) F1 B1 sc_common_of_three cm_common_of_three rfl
  have F2 := fun_mk (st := topS 3) l2 c2 k2
  have B2 := F2.binds (ps := ["p", "q", "s"]) fun _ _ _ _ _ _ us hl => match us, hl with | [_, _, _], _ => rfl
  have T3 : ∀ base : Heap, TabOk l.prog w K mg base 3 t_3 := fun base => TabOk.more (T2 base) C blt (PySem.W.mg_of X G a2) F2 B2 sc_length cm_length rfl
  have F3 := fun_mk (st := topS 4) l3 c3 k3
  have B3 := F3.binds (ps := ["first", "second"]) fun _ _ _ _ _ _ us hl => match us, hl with | [_, _], _ => rfl
  have T4 : ∀ base : Heap, TabOk l.prog w K mg base 4 t_4 := fun base => TabOk.more (T3 base) C blt (PySem.W.mg_of X G a3) F3 B3 sc_plus cm_plus rfl
  have F4 := fun_mk (st := topS 5) l4 c4 k4
  have B4 := F4.binds (ps := ["number"]) fun _ _ _ _ _ _ us hl => match us, hl with | [_], _ => rfl
  have T5 : ∀ base : Heap, TabOk l.prog w K mg base 5 t_5 := fun base => TabOk.more (T4 base) C blt (PySem.W.mg_of X G a4) F4 B4 sc_negative cm_negative rfl
  have F5 := fun_mk (st := topS 6) l5 c5 k5
  have B5 := F5.binds (ps := ["first", "second"]) fun _ _ _ _ _ _ us hl => match us, hl with | [_, _], _ => rfl
  have T6 : ∀ base : Heap, TabOk l.prog w K mg base 6 t_6 := fun base => TabOk.more (T5 base) C blt (PySem.W.mg_of X G a5) F5 B5 sc_minus cm_minus rfl
  have F6 := fun_mk (st := topS 8) l6 c6 k6
  have B6 := F6.binds (ps := ["number"]) fun _ _ _ _ _ _ us hl => match us, hl with | [_], _ => rfl
  have T7 : ∀ base : Heap, TabOk l.prog w K mg base 7 t_7 := fun base => TabOk.more (T6 base) C blt (PySem.W.mg_of X G a6) F6 B6 sc_sign_of_number cm_sign_of_number rfl
  have F7 := fun_mk (st := topS 9) l7 c7 k7
  have B7 := F7.binds (ps := ["root", "number"]) fun _ _ _ _ _ _ us hl => match us, hl with | [_, _], _ => rfl
  have T8 : ∀ base : Heap, TabOk l.prog w K mg base 8 t_8 := fun base => TabOk.more (T7 base) C blt (PySem.W.mg_of X G a7) F7 B7 sc_sign_of cm_sign_of rfl
  have F8 := fun_mk (st := topS 10) l8 c8 k8
  have B8 := F8.binds (ps := ["root", "first", "second"]) fun _ _ _ _ _ _ us hl => match us, hl with | [_, _, _], _ => rfl
  have T9 : ∀ base : Heap, TabOk l.prog w K mg base 9 t_9 := fun base => TabOk.more (T8 base) C blt (PySem.W.mg_of X G a8) F8 B8 sc_compare cm_compare rfl
  have F9 := fun_mk (st := topS 12) l9 c9 k9
  have B9 := F9.binds (ps := ["tile"]) fun _ _ _ _ _ _ us hl => match us, hl with | [_], _ => rfl
  have T10 : ∀ base : Heap, TabOk l.prog w K mg base 10 t_10 := fun base => TabOk.more (T9 base) C blt (PySem.W.mg_of X G a9) F9 B9 sc_right_of cm_right_of rfl
  have F10 := fun_mk (st := topS 13) l10 c10 k10
  have B10 := F10.binds (ps := ["tile"]) fun _ _ _ _ _ _ us hl => match us, hl with | [_], _ => rfl
  have T11 : ∀ base : Heap, TabOk l.prog w K mg base 11 t_11 := fun base => TabOk.more (T10 base) C blt (PySem.W.mg_of X G a10) F10 B10 sc_top_of cm_top_of rfl
  have F11 := fun_mk (st := topS 14) l11 c11 k11
  have B11 := F11.binds (ps := ["root", "tile", "other"]) fun _ _ _ _ _ _ us hl => match us, hl with | [_, _, _], _ => rfl
  have T12 : ∀ base : Heap, TabOk l.prog w K mg base 12 t_12 := fun base => TabOk.more (T11 base) C blt (PySem.W.mg_of X G a11) F11 B11 sc_comes_before cm_comes_before rfl
  have F12 := fun_mk (st := topS 16) l12 c12 k12
  have B12 := F12.binds (ps := ["root", "first", "second"]) fun _ _ _ _ _ _ us hl => match us, hl with | [_, _, _], _ => rfl
  have T13 : ∀ base : Heap, TabOk l.prog w K mg base 13 t_13 := fun base => TabOk.more (T12 base) C blt (PySem.W.mg_of X G a12) F12 B12 sc_merged cm_merged rfl
  have F13 := fun_mk (st := topS 17) l13 c13 k13
  have B13 := F13.binds (ps := ["root", "tiles"]) fun _ _ _ _ _ _ us hl => match us, hl with | [_, _], _ => rfl
  have T14 : ∀ base : Heap, TabOk l.prog w K mg base 14 t_14 := fun base => TabOk.more (T13 base) C blt (PySem.W.mg_of X G a13) F13 B13 sc_in_order cm_in_order rfl
  have F14 := fun_mk (st := topS 19) l14 c14 k14
  have B14 := F14.binds (ps := ["tile"]) fun _ _ _ _ _ _ us hl => match us, hl with | [_], _ => rfl
  have T15 : ∀ base : Heap, TabOk l.prog w K mg base 15 t_15 := fun base => TabOk.more (T14 base) C blt (PySem.W.mg_of X G a14) F14 B14 sc_edges_of cm_edges_of rfl
  have F15 := fun_mk (st := topS 20) l15 c15 k15
  have B15 := F15.binds (ps := ["root", "sheet", "tiles"]) fun _ _ _ _ _ _ us hl => match us, hl with | [_, _, _], _ => rfl
  have T16 : ∀ base : Heap, TabOk l.prog w K mg base 16 t_16 := fun base => TabOk.more (T15 base) C blt (PySem.W.mg_of X G a15) F15 B15 sc_lying_lines cm_lying_lines rfl
  have F16 := fun_mk (st := topS 21) l16 c16 k16
  have B16 := F16.binds (ps := ["root", "lines", "x", "y"]) fun _ _ _ _ _ _ us hl => match us, hl with | [_, _, _, _], _ => rfl
  have T17 : ∀ base : Heap, TabOk l.prog w K mg base 17 t_17 := fun base => TabOk.more (T16 base) C blt (PySem.W.mg_of X G a16) F16 B16 sc_line_at cm_line_at rfl
  have F17 := fun_mk (st := topS 22) l17 c17 k17
  have B17 := F17.binds (ps := ["root", "sheet", "tiles"]) fun _ _ _ _ _ _ us hl => match us, hl with | [_, _, _], _ => rfl
  have T18 : ∀ base : Heap, TabOk l.prog w K mg base 18 t_18 := fun base => TabOk.more (T17 base) C blt (PySem.W.mg_of X G a17) F17 B17 sc_net_of cm_net_of rfl
  have F18 := fun_mk (st := topS 24) l18 c18 k18
  have B18 := F18.binds (ps := ["script", "many"]) fun _ _ _ _ _ _ us hl => match us, hl with | [_, _], _ => rfl
  have T19 : ∀ base : Heap, TabOk l.prog w K mg base 19 t_19 := fun base => TabOk.more (T18 base) C blt (PySem.W.mg_of X G a18) F18 B18 sc__law_draws cm__law_draws rfl
  have F19 := fun_mk (st := topS 25) l19 c19 k19
  have B19 := F19.binds (ps := ["draws", "k"]) fun _ _ _ _ _ _ us hl => match us, hl with | [_, _], _ => rfl
  have T20 : ∀ base : Heap, TabOk l.prog w K mg base 20 t_20 := fun base => TabOk.more (T19 base) C blt (PySem.W.mg_of X G a19) F19 B19 sc__law_cell cm__law_cell rfl
  have F20 := fun_mk (st := topS 26) l20 c20 k20
  have B20 := F20.binds (ps := ["cell"]) fun _ _ _ _ _ _ us hl => match us, hl with | [_], _ => rfl
  have T21 : ∀ base : Heap, TabOk l.prog w K mg base 21 t_21 := fun base => TabOk.more (T20 base) C blt (PySem.W.mg_of X G a20) F20 B20 sc__law_root cm__law_root rfl
  have F21 := fun_mk (st := topS 27) l21 c21 k21
  have B21 := F21.binds (ps := ["first", "second"]) fun _ _ _ _ _ _ us hl => match us, hl with | [_, _], _ => rfl
  have T22 : ∀ base : Heap, TabOk l.prog w K mg base 22 t_22 := fun base => TabOk.more (T21 base) C blt (PySem.W.mg_of X G a21) F21 B21 sc__law_common cm__law_common rfl
  have F22 := fun_mk (st := topS 28) l22 c22 k22
  have B22 := F22.binds (ps := ["p", "q", "s"]) fun _ _ _ _ _ _ us hl => match us, hl with | [_, _, _], _ => rfl
  have T23 : ∀ base : Heap, TabOk l.prog w K mg base 23 t_23 := fun base => TabOk.more (T22 base) C blt (PySem.W.mg_of X G a22) F22 B22 sc__law_length cm__law_length rfl
  have F23 := fun_mk (st := topS 29) l23 c23 k23
  have B23 := F23.binds (ps := ["p"]) fun _ _ _ _ _ _ us hl => match us, hl with | [_], _ => rfl
  have T24 : ∀ base : Heap, TabOk l.prog w K mg base 24 t_24 := fun base => TabOk.more (T23 base) C blt (PySem.W.mg_of X G a23) F23 B23 sc__law_whole cm__law_whole rfl
  have F24 := fun_mk (st := topS 30) l24 c24 k24
  have B24 := F24.binds (ps := ["first", "second"]) fun _ _ _ _ _ _ us hl => match us, hl with | [_, _], _ => rfl
  have T25 : ∀ base : Heap, TabOk l.prog w K mg base 25 t_25 := fun base => TabOk.more (T24 base) C blt (PySem.W.mg_of X G a24) F24 B24 sc__law_plus cm__law_plus rfl
  have F25 := fun_mk (st := topS 31) l25 c25 k25
  have B25 := F25.binds (ps := ["first", "second"]) fun _ _ _ _ _ _ us hl => match us, hl with | [_, _], _ => rfl
  have T26 : ∀ base : Heap, TabOk l.prog w K mg base 26 t_26 := fun base => TabOk.more (T25 base) C blt (PySem.W.mg_of X G a25) F25 B25 sc__law_minus cm__law_minus rfl
  have F26 := fun_mk (st := topS 32) l26 c26 k26
  have B26 := F26.binds (ps := ["root", "first", "second"]) fun _ _ _ _ _ _ us hl => match us, hl with | [_, _, _], _ => rfl
  have T27 : ∀ base : Heap, TabOk l.prog w K mg base 27 t_27 := fun base => TabOk.more (T26 base) C blt (PySem.W.mg_of X G a26) F26 B26 sc__law_times cm__law_times rfl
  have F27 := fun_mk (st := topS 33) l27 c27 k27
  have B27 := F27.binds (ps := ["number"]) fun _ _ _ _ _ _ us hl => match us, hl with | [_], _ => rfl
  have T28 : ∀ base : Heap, TabOk l.prog w K mg base 28 t_28 := fun base => TabOk.more (T27 base) C blt (PySem.W.mg_of X G a27) F27 B27 sc__law_twin cm__law_twin rfl
  have F28 := fun_mk (st := topS 34) l28 c28 k28
  have B28 := F28.binds (ps := ["root", "number"]) fun _ _ _ _ _ _ us hl => match us, hl with | [_, _], _ => rfl
  have T29 : ∀ base : Heap, TabOk l.prog w K mg base 29 t_29 := fun base => TabOk.more (T28 base) C blt (PySem.W.mg_of X G a28) F28 B28 sc__law_sign cm__law_sign rfl
  have F29 := fun_mk (st := topS 35) l29 c29 k29
  have B29 := F29.binds (ps := ["root", "first", "second"]) fun _ _ _ _ _ _ us hl => match us, hl with | [_, _, _], _ => rfl
  have T30 : ∀ base : Heap, TabOk l.prog w K mg base 30 t_30 := fun base => TabOk.more (T29 base) C blt (PySem.W.mg_of X G a29) F29 B29 sc__law_less cm__law_less rfl
  have F30 := fun_mk (st := topS 36) l30 c30 k30
  have B30 := F30.binds (ps := ["draws", "at", "root"]) fun _ _ _ _ _ _ us hl => match us, hl with | [_, _, _], _ => rfl
  have T31 : ∀ base : Heap, TabOk l.prog w K mg base 31 t_31 := fun base => TabOk.more (T30 base) C blt (PySem.W.mg_of X G a30) F30 B30 sc__law_above cm__law_above rfl
  have F31 := fun_mk (st := topS 37) l31 c31 k31
  have B31 := F31.binds (ps := ["root", "tile", "other"]) fun _ _ _ _ _ _ us hl => match us, hl with | [_, _, _], _ => rfl
  have T32 : ∀ base : Heap, TabOk l.prog w K mg base 32 t_32 := fun base => TabOk.more (T31 base) C blt (PySem.W.mg_of X G a31) F31 B31 sc__law_before cm__law_before rfl
  have F32 := fun_mk (st := topS 38) l32 c32 k32
  have B32 := F32.binds (ps := ["root", "tiles"]) fun _ _ _ _ _ _ us hl => match us, hl with | [_, _], _ => rfl
  have T33 : ∀ base : Heap, TabOk l.prog w K mg base 33 t_33 := fun base => TabOk.more (T32 base) C blt (PySem.W.mg_of X G a32) F32 B32 sc__law_in_order cm__law_in_order rfl
  have F33 := fun_mk (st := topS 39) l33 c33 k33
  have B33 := F33.binds (ps := ["root", "tile", "side", "share"]) fun _ _ _ _ _ _ us hl => match us, hl with | [_, _, _, _], _ => rfl
  have T34 : ∀ base : Heap, TabOk l.prog w K mg base 34 t_34 := fun base => TabOk.more (T33 base) C blt (PySem.W.mg_of X G a33) F33 B33 sc__law_split cm__law_split rfl
  have F34 := fun_mk (st := topS 40) l34 c34 k34
  have B34 := F34.binds (ps := ["root", "tile", "share"]) fun _ _ _ _ _ _ us hl => match us, hl with | [_, _, _], _ => rfl
  have T35 : ∀ base : Heap, TabOk l.prog w K mg base 35 t_35 := fun base => TabOk.more (T34 base) C blt (PySem.W.mg_of X G a34) F34 B34 sc__law_wheel cm__law_wheel rfl
  have F35 := fun_mk (st := topS 41) l35 c35 k35
  have B35 := F35.binds (ps := ["draws", "at", "root", "sheet", "many"]) fun _ _ _ _ _ _ us hl => match us, hl with | [_, _, _, _, _], _ => rfl
  have T36 : ∀ base : Heap, TabOk l.prog w K mg base 36 t_36 := fun base => TabOk.more (T35 base) C blt (PySem.W.mg_of X G a35) F35 B35 sc__law_cutting cm__law_cutting rfl
  have F36 := fun_mk (st := topS 42) l36 c36 k36
  have B36 := F36.binds (ps := ["root", "measure", "w", "h"]) fun _ _ _ _ _ _ us hl => match us, hl with | [_, _, _, _], _ => rfl
  have T37 : ∀ base : Heap, TabOk l.prog w K mg base 37 t_37 := fun base => TabOk.more (T36 base) C blt (PySem.W.mg_of X G a36) F36 B36 sc__law_measure cm__law_measure rfl
  have F37 := fun_mk (st := topS 43) l37 c37 k37
  have B37 := F37.binds (ps := []) fun _ _ _ _ _ _ us hl => match us, hl with | [], _ => rfl
  have T38 : ∀ base : Heap, TabOk l.prog w K mg base 38 t_38 := fun base => TabOk.more (T37 base) C blt (PySem.W.mg_of X G a37) F37 B37 sc__law_wheel_of_three cm__law_wheel_of_three rfl
  have F38 := fun_mk (st := topS 44) l38 c38 k38
  have B38 := F38.binds (ps := ["lengths"]) fun _ _ _ _ _ _ us hl => match us, hl with | [_], _ => rfl
  have T39 : ∀ base : Heap, TabOk l.prog w K mg base 39 t_39 := fun base => TabOk.more (T38 base) C blt (PySem.W.mg_of X G a38) F38 B38 sc__law_sum cm__law_sum rfl
  have F39 := fun_mk (st := topS 45) l39 c39 k39
  have B39 := F39.binds (ps := ["root", "sheet", "tiles", "measure"]) fun _ _ _ _ _ _ us hl => match us, hl with | [_, _, _, _], _ => rfl
  have T40 : ∀ base : Heap, TabOk l.prog w K mg base 40 t_40 := fun base => TabOk.more (T39 base) C blt (PySem.W.mg_of X G a39) F39 B39 sc__law_decided cm__law_decided rfl
  have F40 := fun_mk (st := topS 46) l40 c40 k40
  exact ⟨PySem.W.fnOf "law" "law" (defArgs (topS 46)) (defBody (topS 46)) (defScope (topS 46)) .none kV40 dc40 pm40 an40 cd40 ct40, fun s v => .of_eq rfl, fun base _ _ => fn_ok F40 sc_law (T40 base) C blt cm_law⟩
end K83
open PySem PySem.W PyProof.Rows
set_option maxHeartbeats 0 in
theorem PySem.Challenge.cw_likesheets_k83_whole_widths_add_up_holds : PySem.Challenge.rw_likesheets_k83_whole_widths_add_up.Holds := by
  w_on; o_law; k_head; (case hw => w_witness2)
  k_fill
  refine PV.walk_ofG (l := PySem.Challenge.rw_likesheets_k83_whole_widths_add_up) (n := 63) (k := 41) (x := "script") (sp := fun w => PV.spF _ K83.f_law) rfl (by decide) rfl ⟨rfl, by decide, by decide⟩ (fun w h Y => PySem.W.kIn_of Y) ?F (fun w H a ns hl _ hS => PV.spF_law (by kernel_rfl) hS (K83.law_true ns hl))
  case F =>
    intro w mg fa h KX G hmg
    refine' K83.all_mk KX G hmg ?a0 ?l0 ?c0 ?k0 ?a1 ?l1 ?c1 ?k1 ?a2 ?l2 ?c2 ?k2 ?a3 ?l3 ?c3 ?k3 ?a4 ?l4 ?c4 ?k4 ?a5 ?l5 ?c5 ?k5 ?a6 ?l6 ?c6 ?k6 ?a7 ?l7 ?c7 ?k7 ?a8 ?l8 ?c8 ?k8 ?a9 ?l9 ?c9 ?k9 ?a10 ?l10 ?c10 ?k10 ?a11 ?l11 ?c11 ?k11 ?a12 ?l12 ?c12 ?k12 ?a13 ?l13 ?c13 ?k13 ?a14 ?l14 ?c14 ?k14 ?a15 ?l15 ?c15 ?k15 ?a16 ?l16 ?c16 ?k16 ?a17 ?l17 ?c17 ?k17 ?a18 ?l18 ?c18 ?k18 ?a19 ?l19 ?c19 ?k19 ?a20 ?l20 ?c20 ?k20 ?a21 ?l21 ?c21 ?k21 ?a22 ?l22 ?c22 ?k22 ?a23 ?l23 ?c23 ?k23 ?a24 ?l24 ?c24 ?k24 ?a25 ?l25 ?c25 ?k25 ?a26 ?l26 ?c26 ?k26 ?a27 ?l27 ?c27 ?k27 ?a28 ?l28 ?c28 ?k28 ?a29 ?l29 ?c29 ?k29 ?a30 ?l30 ?c30 ?k30 ?a31 ?l31 ?c31 ?k31 ?a32 ?l32 ?c32 ?k32 ?a33 ?l33 ?c33 ?k33 ?a34 ?l34 ?c34 ?k34 ?a35 ?l35 ?c35 ?k35 ?a36 ?l36 ?c36 ?k36 ?a37 ?l37 ?c37 ?k37 ?a38 ?l38 ?c38 ?k38 ?a39 ?l39 ?c39 ?k39 ?a40 ?l40 ?c40 ?k40 ?z0 ?z1 ?z2 ?z3 ?z4 ?z5 ?z6 ?z7 ?z8 ?z9 ?z10 ?z11 ?z12 ?z13 ?z14 ?C
    (case a0 => k_is)
    (case l0 => k_is)
    (case c0 => k_is)
    (case k0 => k_is)
    (case a1 => k_is)
    (case l1 => k_is)
    (case c1 => k_is)
    (case k1 => k_is)
    (case a2 => k_is)
    (case l2 => k_is)
    (case c2 => k_is)
    (case k2 => k_is)
    (case a3 => k_is)
    (case l3 => k_is)
    (case c3 => k_is)
    (case k3 => k_is)
    (case a4 => k_is)
    (case l4 => k_is)
    (case c4 => k_is)
    (case k4 => k_is)
    (case a5 => k_is)
    (case l5 => k_is)
    (case c5 => k_is)
    (case k5 => k_is)
    (case a6 => k_is)
    (case l6 => k_is)
    (case c6 => k_is)
    (case k6 => k_is)
    (case a7 => k_is)
    (case l7 => k_is)
    (case c7 => k_is)
    (case k7 => k_is)
    (case a8 => k_is)
    (case l8 => k_is)
    (case c8 => k_is)
    (case k8 => k_is)
    (case a9 => k_is)
    (case l9 => k_is)
    (case c9 => k_is)
    (case k9 => k_is)
    (case a10 => k_is)
    (case l10 => k_is)
    (case c10 => k_is)
    (case k10 => k_is)
    (case a11 => k_is)
    (case l11 => k_is)
    (case c11 => k_is)
    (case k11 => k_is)
    (case a12 => k_is)
    (case l12 => k_is)
    (case c12 => k_is)
    (case k12 => k_is)
    (case a13 => k_is)
    (case l13 => k_is)
    (case c13 => k_is)
    (case k13 => k_is)
    (case a14 => k_is)
    (case l14 => k_is)
    (case c14 => k_is)
    (case k14 => k_is)
    (case a15 => k_is)
    (case l15 => k_is)
    (case c15 => k_is)
    (case k15 => k_is)
    (case a16 => k_is)
    (case l16 => k_is)
    (case c16 => k_is)
    (case k16 => k_is)
    (case a17 => k_is)
    (case l17 => k_is)
    (case c17 => k_is)
    (case k17 => k_is)
    (case a18 => k_is)
    (case l18 => k_is)
    (case c18 => k_is)
    (case k18 => k_is)
    (case a19 => k_is)
    (case l19 => k_is)
    (case c19 => k_is)
    (case k19 => k_is)
    (case a20 => k_is)
    (case l20 => k_is)
    (case c20 => k_is)
    (case k20 => k_is)
    (case a21 => k_is)
    (case l21 => k_is)
    (case c21 => k_is)
    (case k21 => k_is)
    (case a22 => k_is)
    (case l22 => k_is)
    (case c22 => k_is)
    (case k22 => k_is)
    (case a23 => k_is)
    (case l23 => k_is)
    (case c23 => k_is)
    (case k23 => k_is)
    (case a24 => k_is)
    (case l24 => k_is)
    (case c24 => k_is)
    (case k24 => k_is)
    (case a25 => k_is)
    (case l25 => k_is)
    (case c25 => k_is)
    (case k25 => k_is)
    (case a26 => k_is)
    (case l26 => k_is)
    (case c26 => k_is)
    (case k26 => k_is)
    (case a27 => k_is)
    (case l27 => k_is)
    (case c27 => k_is)
    (case k27 => k_is)
    (case a28 => k_is)
    (case l28 => k_is)
    (case c28 => k_is)
    (case k28 => k_is)
    (case a29 => k_is)
    (case l29 => k_is)
    (case c29 => k_is)
    (case k29 => k_is)
    (case a30 => k_is)
    (case l30 => k_is)
    (case c30 => k_is)
    (case k30 => k_is)
    (case a31 => k_is)
    (case l31 => k_is)
    (case c31 => k_is)
    (case k31 => k_is)
    (case a32 => k_is)
    (case l32 => k_is)
    (case c32 => k_is)
    (case k32 => k_is)
    (case a33 => k_is)
    (case l33 => k_is)
    (case c33 => k_is)
    (case k33 => k_is)
    (case a34 => k_is)
    (case l34 => k_is)
    (case c34 => k_is)
    (case k34 => k_is)
    (case a35 => k_is)
    (case l35 => k_is)
    (case c35 => k_is)
    (case k35 => k_is)
    (case a36 => k_is)
    (case l36 => k_is)
    (case c36 => k_is)
    (case k36 => k_is)
    (case a37 => k_is)
    (case l37 => k_is)
    (case c37 => k_is)
    (case k37 => k_is)
    (case a38 => k_is)
    (case l38 => k_is)
    (case c38 => k_is)
    (case k38 => k_is)
    (case a39 => k_is)
    (case l39 => k_is)
    (case c39 => k_is)
    (case k39 => k_is)
    (case a40 => k_is)
    (case l40 => k_is)
    (case c40 => k_is)
    (case k40 => k_is)
    (case z0 => k_is)
    (case z1 => k_is)
    (case z2 => k_is)
    (case z3 => k_is)
    (case z4 => k_is)
    (case z5 => k_is)
    (case z6 => k_is)
    (case z7 => k_is)
    (case z8 => k_is)
    (case z9 => k_is)
    (case z10 => k_is)
    (case z11 => k_is)
    (case z12 => k_is)
    (case z13 => k_is)
    (case z14 => k_is)
    (case C => exact PV.CstOk.nil)

