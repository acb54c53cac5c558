import PyProof.Rows.All
import Wide.All
import OpenK.AllK
import Wide.FinOn
import HandS.ForMost
import HandS.Wide
import HandS.More
import KE.DataEq
import KE.DataIsa
import KE.DataMinMax
import KE.DataFind
import KE.SortData
import KE.DatumIndex
import PyProof.ReprReads
import HandS.SortInts
import HandS.Deep
import HandS.SetFor
import HandS.Strs
import PyProof.ReprRoads
import PyProof.CallFns
import HandS.Style
import HandS.Conv
import PySem.Challenge.RW_likesheets_k88_cuttings_from_edge_to_edg
set_option Elab.async false
set_option linter.all false
set_option maxRecDepth 100000
/-! PV1: the small language (E, S) and what it is worth, over plain values. -/
namespace PV
open PySem

abbrev R := Bool × PyData
abbrev Fn := List PyData → Option R
abbrev Sl := List (Option R)

inductive BOp where
  | add | sub | mul | fdiv | mod | pow | shl | shr | band | bor
inductive COp where
  | eq | ne | lt | le | gt | ge | isn | notn | inn | notin
inductive BI where
  | len | abs | int | min | max | sum | sorted | list | tuple | isInt | isBool | isList | isTuple | isStr | repr | sortedSet | index | count
/-- targets -/
inductive G where
  | nm (i : Nat)
  | two (a b : G)
  | thr (a b c : G)
  | fou (a b c d : G)
mutual
inductive E where
  | v (i : Nat) | c (d : PyData)
  | bin (o : BOp) (a b : E) | neg (a : E)
  | cmp (o : COp) (a b : E) | chain (o p : COp) (a b c : E)
  | and (a b : E) | or (a b : E) | not (a : E) | ite (c a b : E)
  | tup (es : Es) | lst (es : Es)
  | ix (a i : E) | sl (a : E) (lo hi : Oe) | rev (a : E) | rngl (es : Es)
  | call (f : Fn) (es : Es) | bi (b : BI) (es : Es)
  | comp (own : List Nat) (g : G) (it : I) (c : Oe) (elt : E)
  | comp2 (own : List Nat) (g : G) (it : I) (c : Oe) (own1 : List Nat) (g1 : G) (it1 : I) (c1 : Oe) (elt : E)
inductive Es where
  | nil | cons (e : E) (es : Es)
inductive Oe where
  | no | yes (e : E)
inductive I where
  | rng (es : Es) | seq (e : E)
end
mutual
inductive S where
  | asg (g : G) (e : E)
  | asgs (i : Nat) (e : E)
  | par (i j : Nat) (a b : E)
  | par3 (i j l : Nat) (a b d : E)
  | app (i : Nat) (e : E) | ext (i : Nat) (e : E) | ins (i : Nat) (a e : E) | put (i : Nat) (a e : E)
  | pop (g : G) (i : Nat)
  | ret (e : E) | retN
  | ite (c : E) (a b : Ss)
  | for_ (g : G) (it : I) (b : Ss)
  | while_ (c : E) (b : Ss)
  | share (i : Nat)
  | never
inductive Ss where
  | nil | cons (s : S) (ss : Ss)
end

/-! ### values -/
def LINE : Nat := 16777216
def mulOk (i j : Int) : Bool := Nat.blt (i.natAbs.log2 + j.natAbs.log2) 1000000
def divOk (j : Int) : Bool := decide (j ≠ 0) && Nat.blt j.natAbs.log2 9000
def powOk (i j : Int) : Bool := decide (0 ≤ j) && decide (j ≤ 1000000) && Nat.blt i.natAbs 18446744073709551616
def lenOk (n : Nat) : Bool := Nat.ble n LINE
/-- what may be compared: not too deep, no dict -/
def dok (d : PyData) : Bool := Nat.ble d.depth 50 && d.plain
mutual
/-- no list within -/
def nolist : PyData → Bool
  | .list _ => false
  | .dict _ => false
  | .tuple xs => nolistA xs
  | .none => true
  | .bool _ => true
  | .int _ => true
  | .str _ => true
def nolistA : List PyData → Bool
  | [] => true
  | x :: xs => nolist x && nolistA xs
end
def nolistR : R → Bool
  | (false, d) => nolist d
  | (true, .list ds) => nolistA ds
  | (true, _) => false

def evBin : BOp → PyData → PyData → Option R
  | .add, .int i, .int j => some (false, .int (i + j))
  | .add, .list a, .list b => if lenOk (a.length + b.length) then some (true, .list (a ++ b)) else none
  | .sub, .int i, .int j => some (false, .int (i - j))
  | .mul, .int i, .int j => if mulOk i j then some (false, .int (i * j)) else none
  | .mul, .list a, .int k => if decide (k < 1000000000) && decide (-1000000000 < k) && lenOk (a.length * k.toNat) then some (true, .list (List.replicate k.toNat a).flatten) else none
  | .fdiv, .int i, .int j => if divOk j then some (false, .int (i.fdiv j)) else none
  | .mod, .int i, .int j => if decide (0 < j) then some (false, .int (i % j)) else none
  | .pow, .int i, .int j => if powOk i j then some (false, .int (i ^ j.toNat)) else none
  | .shl, .int i, .int j => if powOk i j then some (false, .int (i * 2 ^ j.toNat)) else none
  | .shr, .int i, .int j => if decide (0 ≤ j) then some (false, .int (i / 2 ^ j.toNat)) else none
  | .band, .int i, .int j => some (false, .int (Builtin.bitAnd i j))
  | .bor, .int i, .int j => some (false, .int (Builtin.bitOr i j))
  | _, _, _ => none
def evNeg : PyData → Option R
  | .int i => some (false, .int (-i))
  | _ => none
def isNone : PyData → Bool
  | .none => true
  | _ => false
def evCmp : COp → PyData → PyData → Option Bool
  | .eq, .int i, .int j => some (decide (i = j))
  | .ne, .int i, .int j => some (!decide (i = j))
  | .lt, .int i, .int j => some (decide (i < j))
  | .le, .int i, .int j => some (decide (i ≤ j))
  | .gt, .int i, .int j => some (decide (j < i))
  | .ge, .int i, .int j => some (decide (j ≤ i))
  | .isn, d, .none => some (isNone d)
  | .notn, d, .none => some (!isNone d)
  | .eq, a, b => if dok a && dok b then some (PyData.eqv a b) else none
  | .ne, a, b => if dok a && dok b then some (!PyData.eqv a b) else none
  | .inn, a, .list bs => if dok a && dok (.list bs) then some (bs.any fun z => PyData.eqv z a) else none
  | .notin, a, .list bs => if dok a && dok (.list bs) then some (!bs.any fun z => PyData.eqv z a) else none
  | .inn, a, .tuple bs => if dok a && dok (.tuple bs) then some (bs.any fun z => PyData.eqv z a) else none
  | .notin, a, .tuple bs => if dok a && dok (.tuple bs) then some (!bs.any fun z => PyData.eqv z a) else none
  | _, _, _ => none
def evIx : PyData → PyData → Option R
  | .list ds, .int i => (L2.atI ds i).map fun d => (false, d)
  | .tuple ds, .int i => (L2.atI ds i).map fun d => (false, d)
  | _, _ => none
def cutD (xs : List PyData) (lo hi : Option Int) : List PyData := (xs.drop (HT.sIx xs.length 0 lo)).take (HT.sIx xs.length xs.length hi - HT.sIx xs.length 0 lo)
def evSl : PyData → Option Int → Option Int → Option R
  | .list ds, lo, hi => some (true, .list (cutD ds lo hi))
  | _, _, _ => none
/-- all intsOf -/
def intsOf : List PyData → Option (List Int)
  | [] => some []
  | .int i :: ds => (intsOf ds).map fun l => i :: l
  | _ :: _ => none
def minI : Int → List Int → Int
  | m, [] => m
  | m, x :: xs => minI (if x < m then x else m) xs
def maxI : Int → List Int → Int
  | m, [] => m
  | m, x :: xs => maxI (if m < x then x else m) xs
def insI (x : Int) : List Int → List Int
  | [] => [x]
  | y :: ys => if x ≤ y then x :: y :: ys else y :: insI x ys
def sortI : List Int → List Int
  | [] => []
  | x :: xs => insI x (sortI xs)
def dedupI : List Int → List Int
  | [] => []
  | x :: xs => if xs.contains x then dedupI xs else x :: dedupI xs
def idxD (x : PyData) : List PyData → Nat → Option Nat
  | [], _ => none
  | y :: ys, n => if PyData.eqv y x then some n else idxD x ys (n + 1)

/-- what may be sorted: data of one kind, none of them None, tuples that are not empty -/
def tupOk : PyData → Bool
  | .tuple (_ :: _) => true
  | _ => false
def rowOk : PyData → Bool
  | .tuple _ => false
  | .none => false
  | _ => true
def sdok (ds : List PyData) : Bool := (ds.all fun d => ds.all fun d' => W.alike d d') && (ds.all tupOk || ds.all rowOk) && Nat.ble (PyData.depthAll ds) 50
def evBI : BI → List PyData → Option R
  | .len, [.list ds] => some (false, .int ds.length)
  | .len, [.tuple ds] => some (false, .int ds.length)
  | .abs, [.int i] => some (false, .int (if i < 0 then -i else i))
  | .int, [.int i] => some (false, .int i)
  | .int, [.bool k] => some (false, .int (if k then 1 else 0))
  | .min, [.int i, .int j] => some (false, .int (if j < i then j else i))
  | .max, [.int i, .int j] => some (false, .int (if j > i then j else i))
  | .sorted, [.list ds] => match intsOf ds with
    | some l => some (true, .list ((sortI l).map .int))
    | none => if sdok ds then some (true, .list (ds.mergeSort (W.dataLe false fun d => d))) else none
  | .sortedSet, [.list ds] => (intsOf ds).bind fun l => if Nat.blt l.length 64 then some (true, .list ((sortI (dedupI l)).map .int)) else none
  | .sum, [.list ds] => (intsOf ds).map fun l => (false, .int l.sum)
  | .min, [.list ds] => (intsOf ds).bind fun l => match l with
    | [] => none
    | x :: xs => some (false, .int (minI x xs))
  | .max, [.list ds] => (intsOf ds).bind fun l => match l with
    | [] => none
    | x :: xs => some (false, .int (maxI x xs))
  | .list, [.list ds] => some (true, .list ds)
  | .list, [.tuple ds] => some (true, .list ds)
  | .tuple, [.list ds] => some (false, .tuple ds)
  | .tuple, [.tuple ds] => some (false, .tuple ds)
  | .isInt, [d] => some (false, .bool d.isInt)
  | .isBool, [d] => some (false, .bool d.isBool)
  | .isList, [d] => some (false, .bool d.isList)
  | .isTuple, [d] => some (false, .bool d.isTuple)
  | .isStr, [d] => some (false, .bool d.isStr)
  | .repr, [d] => if d.showable && !d.hasDict && Nat.ble d.depth 50 && lenOk (d.shown.length + 64) then some (false, .str d.shown) else none
  | .count, [.list ds, x] => if dok x && dok (.list ds) then some (false, .int (ds.countP fun y => PyData.eqv y x : Nat)) else none
  | .index, [.list ds, x] => if dok x && dok (.list ds) then (idxD x ds 0).map fun n => (false, .int n) else none
  | _, _ => none

/-! ### slots -/
def wipeR (ρ : Sl) : List Nat → Sl
  | [] => ρ
  | v :: vs => (wipeR ρ vs).set v none
def asg : G → PyData → Sl → Option Sl
  | .nm i, d, ρ => some (ρ.set i (some (false, d)))
  | .two a b, .tuple [x, y], ρ => (asg a x ρ).bind fun ρ1 => asg b y ρ1
  | .thr a b c, .tuple [x, y, z], ρ => (asg a x ρ).bind fun ρ1 => (asg b y ρ1).bind fun ρ2 => asg c z ρ2
  | .fou a b c d, .tuple [x, y, z, u], ρ => (asg a x ρ).bind fun ρ1 => (asg b y ρ1).bind fun ρ2 => (asg c z ρ2).bind fun ρ3 => asg d u ρ3
  | _, _, _ => none
def asgR : G → R → Sl → Option Sl
  | .nm i, r, ρ => some (ρ.set i (some r))
  | g, r, ρ => asg g r.2 ρ
def ownedArg (ρ : Sl) : E → Bool
  | .v i => match ρ[i]? with
    | some (some (true, _)) => true
    | _ => false
  | _ => false
def ownedArgs (ρ : Sl) : Es → Bool
  | .nil => false
  | .cons e es => ownedArg ρ e || ownedArgs ρ es

def compGo (f : PyData → Option (Option PyData)) : List PyData → Option (List PyData)
  | [] => some []
  | d :: ds => match f d with
    | none => none
    | some none => compGo f ds
    | some (some y) => match compGo f ds with
      | none => none
      | some ys => some (y :: ys)
def compGo2 (f : PyData → Option (List PyData)) : List PyData → Option (List PyData)
  | [] => some []
  | d :: ds => match f d with
    | none => none
    | some xs => match compGo2 f ds with
      | none => none
      | some ys => some (xs ++ ys)
def rngI (lo : Int) (n : Nat) : List PyData := (List.range n).map fun (k : Nat) => .int (lo + (k : Int))
/-- a step other than 0 -/
def rngN (lo hi st : Int) : Nat := (Builtin.Range.rangeSize lo hi st).toNat
def rngS (lo st : Int) (n : Nat) : List PyData := (List.range n).map fun (k : Nat) => .int (lo + (k : Int) * st)
def smallI (i : Int) : Bool := decide (-1000000000 ≤ i) && decide (i ≤ 1000000000)
def evRng : List PyData → Option (List PyData)
  | [.int n] => if smallI n && lenOk n.toNat then some (rngI 0 n.toNat) else none
  | [.int a, .int b] => if smallI a && smallI b && lenOk (b - a).toNat then some (rngI a (b - a).toNat) else none
  | [.int a, .int b, .int c] => if decide (c ≠ 0) && Nat.blt c.natAbs 1073741824 && Builtin.Range.small a b c && lenOk (rngN a b c) && decide (Builtin.Range.rangeSize a b c = (rngN a b c : Int)) then some (rngS a c (rngN a b c)) else none
  | _ => none
def itemsOf : PyData → Option (List PyData)
  | .list ds => some ds
  | .tuple ds => some ds
  | _ => none

mutual
def evE : E → Bool → Sl → Option R
  | .v i, b, ρ => match ρ[i]? with
    | some (some (fl, d)) => if fl && !b then none else some (false, d)
    | _ => none
  | .c d, _, _ => some (false, d)
  | .bin o x y, _, ρ => (evE x true ρ).bind fun r => (evE y true ρ).bind fun s => evBin o r.2 s.2
  | .neg x, _, ρ => (evE x true ρ).bind fun r => evNeg r.2
  | .cmp o x y, _, ρ => (evE x true ρ).bind fun r => (evE y true ρ).bind fun s => (evCmp o r.2 s.2).map fun k => (false, .bool k)
  | .chain o p x y z, _, ρ => (evE x true ρ).bind fun r => (evE y true ρ).bind fun s => (evCmp o r.2 s.2).bind fun k => match k with
    | false => some (false, .bool false)
    | true => (evE z true ρ).bind fun t => (evCmp p s.2 t.2).map fun k => (false, .bool k)
  | .and x y, b, ρ => (evE x true ρ).bind fun r => match r.2 with
    | .bool true => evE y b ρ
    | .bool false => some (false, .bool false)
    | _ => none
  | .or x y, b, ρ => (evE x true ρ).bind fun r => match r.2 with
    | .bool false => evE y b ρ
    | .bool true => some (false, .bool true)
    | _ => none
  | .not x, _, ρ => (evE x true ρ).bind fun r => match r.2 with
    | .bool k => some (false, .bool (!k))
    | _ => none
  | .ite c x y, b, ρ => (evE c true ρ).bind fun r => match r.2 with
    | .bool true => evE x b ρ
    | .bool false => evE y b ρ
    | _ => none
  | .tup es, _, ρ => (evEs es false ρ).bind fun ds => if lenOk ds.length then some (false, .tuple ds) else none
  | .lst es, _, ρ => (evEs es false ρ).bind fun ds => if lenOk ds.length then some (true, .list ds) else none
  | .ix x i, _, ρ => (evE x true ρ).bind fun r => (evE i true ρ).bind fun s => evIx r.2 s.2
  | .sl x lo hi, _, ρ => (evE x true ρ).bind fun r => (evP lo ρ).bind fun l => (evP hi ρ).bind fun h => evSl r.2 l h
  | .rev x, _, ρ => (evE x true ρ).bind fun r => match r.2 with
    | .list ds => some (true, .list ds.reverse)
    | .tuple ds => some (false, .tuple ds.reverse)
    | _ => none
  | .rngl es, _, ρ => (evEs es true ρ).bind fun ds => (evRng ds).map fun l => (true, .list l)
  | .call f es, _, ρ => if ownedArgs ρ es then (evEs es true ρ).bind fun ds => (f ds).bind fun r => if nolistR r then some r else none else (evEs es false ρ).bind f
  | .bi b es, _, ρ => (evEs es true ρ).bind fun ds => evBI b ds
  | .comp own g it c elt, _, ρ => (evI it true ρ).bind fun ds => (compGo (fun d => (asg g d (wipeR ρ own)).bind fun ρ2 => (evC c ρ2).bind fun k => match k with
      | false => some none
      | true => (evE elt false ρ2).map fun r => some r.2) ds).map fun ys => (true, .list ys)
  | .comp2 own g it c own1 g1 it1 c1 elt, _, ρ => (evI it true ρ).bind fun ds => (compGo2 (fun d => (asg g d (wipeR ρ own)).bind fun ρ2 => (evC c ρ2).bind fun k => match k with
      | false => some []
      | true => (evI it1 true ρ2).bind fun ds1 => compGo (fun d1 => (asg g1 d1 (wipeR ρ2 own1)).bind fun ρ3 => (evC c1 ρ3).bind fun k => match k with
        | false => some none
        | true => (evE elt false ρ3).map fun r => some r.2) ds1) ds).bind fun ys => if lenOk ys.length then some (true, .list ys) else none
def evEs : Es → Bool → Sl → Option (List PyData)
  | .nil, _, _ => some []
  | .cons e es, b, ρ => (evE e b ρ).bind fun r => (evEs es b ρ).map fun ds => r.2 :: ds
/-- a bound of a slice -/
def evP : Oe → Sl → Option (Option Int)
  | .no, _ => some none
  | .yes e, ρ => (evE e true ρ).bind fun r => match r.2 with
    | .int i => some (some i)
    | _ => none
/-- a comprehension's test -/
def evC : Oe → Sl → Option Bool
  | .no, _ => some true
  | .yes e, ρ => (evE e true ρ).bind fun r => match r.2 with
    | .bool k => some k
    | _ => none
def evI : I → Bool → Sl → Option (List PyData)
  | .rng es, _, ρ => (evEs es true ρ).bind evRng
  | .seq e, b, ρ => (evE e b ρ).bind fun r => itemsOf r.2
end
/-- a test -/
def evT (e : E) (ρ : Sl) : Option Bool := (evE e true ρ).bind fun r => match r.2 with
  | .bool k => some k
  | _ => none
/-- what is returned: an owned list moves -/
def evRet : E → Sl → Option R
  | .v i, ρ => match ρ[i]? with
    | some (some r) => some r
    | _ => none
  | e, ρ => evE e false ρ

/-! ### statements -/
inductive Out where
  | nx (ρ : Sl) | rt (r : R) | bk (ρ : Sl) | ct (ρ : Sl)
def forGo (g : G) (f : Sl → Option Out) : List PyData → Sl → Option Out
  | [], ρ => some (.nx ρ)
  | d :: ds, ρ => match asg g d ρ with
    | none => none
    | some ρ1 => match f ρ1 with
      | some (.nx ρ2) => forGo g f ds ρ2
      | some (.ct ρ2) => forGo g f ds ρ2
      | some (.bk ρ2) => some (.nx ρ2)
      | some (.rt r) => some (.rt r)
      | none => none
def whileGo (c : Sl → Option Bool) (f : Sl → Option Out) : Nat → Sl → Option Out
  | 0, _ => none
  | n + 1, ρ => match c ρ with
    | none => none
    | some false => some (.nx ρ)
    | some true => match f ρ with
      | some (.nx ρ2) => whileGo c f n ρ2
      | some (.ct ρ2) => whileGo c f n ρ2
      | some (.bk ρ2) => some (.nx ρ2)
      | some (.rt r) => some (.rt r)
      | none => none
/-- an owned list in slot i -/
def own (ρ : Sl) (i : Nat) : Option (List PyData) := match ρ[i]? with
  | some (some (true, .list ds)) => some ds
  | _ => none
def putD : List PyData → Int → PyData → Option (List PyData)
  | ds, i, d => (L2.ixN ds.length i).map fun j => ds.set j d
mutual
def evS (n : Nat) : S → Sl → Option Out
  | .asg g e, ρ => (evE e false ρ).bind fun r => (asgR g r ρ).map .nx
  | .asgs i e, ρ => (evE e false ρ).map fun r => .nx (ρ.set i (some (false, r.2)))
  | .par i j a b, ρ => (evE a false ρ).bind fun r => (evE b false ρ).map fun s => .nx ((ρ.set i (some r)).set j (some s))
  | .par3 i j l a b d, ρ => (evE a false ρ).bind fun r => (evE b false ρ).bind fun s => (evE d false ρ).map fun t => .nx (((ρ.set i (some r)).set j (some s)).set l (some t))
  | .app i e, ρ => (own ρ i).bind fun ds => (evE e false ρ).bind fun r => if lenOk (ds.length + 1) then some (.nx (ρ.set i (some (true, .list (ds ++ [r.2]))))) else none
  | .ext i e, ρ => (own ρ i).bind fun ds => (evE e false ρ).bind fun r => match r.2 with
    | .list es => if lenOk (ds.length + es.length) then some (.nx (ρ.set i (some (true, .list (ds ++ es))))) else none
    | .tuple es => if lenOk (ds.length + es.length) then some (.nx (ρ.set i (some (true, .list (ds ++ es))))) else none
    | _ => none
  | .ins i a e, ρ => (own ρ i).bind fun ds => (evE a true ρ).bind fun k => (evE e false ρ).bind fun r => match k.2 with
    | .int j => if decide (0 ≤ j) && decide (j < 1000000000) && lenOk (ds.length + 1) then some (.nx (ρ.set i (some (true, .list (ds.take j.toNat ++ [r.2] ++ ds.drop j.toNat))))) else none
    | _ => none
  | .put i a e, ρ => (evE e false ρ).bind fun r => (own ρ i).bind fun ds => (evE a true ρ).bind fun k => match k.2 with
    | .int j => (putD ds j r.2).map fun ds' => .nx (ρ.set i (some (true, .list ds')))
    | _ => none
  | .pop g i, ρ => (own ρ i).bind fun ds => match ds.getLast? with
    | none => none
    | some d => (asg g d (ρ.set i (some (true, .list ds.dropLast)))).map .nx
  | .ret e, ρ => (evRet e ρ).map .rt
  | .retN, _ => some (.rt (false, .none))
  | .ite c a b, ρ => (evT c ρ).bind fun k => match k with
    | true => evSs n a ρ
    | false => evSs n b ρ
  | .for_ g it b, ρ => (evI it false ρ).bind fun ds => forGo g (fun ρ => evSs n b ρ) ds ρ
  | .while_ c b, ρ => whileGo (fun ρ => evT c ρ) (fun ρ => evSs n b ρ) n ρ
  | .share i, ρ => match ρ[i]? with
    | some (some (true, d)) => some (.nx (ρ.set i (some (false, d))))
    | _ => some (.nx ρ)
  | .never, _ => none
def evSs (n : Nat) : Ss → Sl → Option Out
  | .nil, ρ => some (.nx ρ)
  | .cons s ss, ρ => match evS n s ρ with
    | some (.nx ρ2) => evSs n ss ρ2
    | o => o
end
def startR (n : Nat) (ds : List PyData) : Sl := ds.map (fun d => some (false, d)) ++ List.replicate (n - ds.length) none
/-- a def: n turns for each while, np parameters, nl names -/
def evDef (n np nl : Nat) (body : Ss) : Fn := fun ds => if ds.length = np then match evSs n body (startR nl ds) with
  | some (.rt r) => some r
  | some (.nx _) => some (false, .none)
  | _ => none
  else none
end PV

set_option Elab.async false
set_option linter.all false
set_option maxRecDepth 100000
/-! PV2: how values lie in the heap (Rp), owned slots (Ok). -/
namespace PV
open PySem PySem.Spec PyProof.Rows L2

/-- a tuple of the written part -/
def Kt (K : PySem.W.Frag) (a : Addr) (xs : List V) : Prop :=
  ∃ (o : Obj) (its : Array Value) (n : Nat), K.lookup a = some o ∧ o.cls = .type "tuple" ∧ o.data = .seq its n ∧ its.size ≤ sizeLine ∧ Vals xs its.toList
mutual
/-- v stands for d; no list or tuple of it lies at an address of O -/
inductive Rp (K : PySem.W.Frag) (H : Hp) (O : Addr → Prop) : V → PyData → Prop
  | non : Rp K H O .non .none
  | bl (b : Bool) : Rp K H O (.bl b) (.bool b)
  | int (i : Int) : Rp K H O (.int i) (.int i)
  | str (x : Str) : Rp K H O (.str x) (.str x)
  | lst {a : Addr} {xs : List V} {ds : List PyData} : Rd H a (.lst xs) → ¬ O a → RpA K H O xs ds → Rp K H O (.ref a) (.list ds)
  | tup {a : Addr} {xs : List V} {ds : List PyData} : ((Rd H a (.tup xs) ∧ ¬ O a) ∨ Kt K a xs) → RpA K H O xs ds → Rp K H O (.ref a) (.tuple ds)
inductive RpA (K : PySem.W.Frag) (H : Hp) (O : Addr → Prop) : List V → List PyData → Prop
  | nil : RpA K H O [] []
  | cons {v : V} {vs : List V} {d : PyData} {ds : List PyData} : Rp K H O v d → RpA K H O vs ds → RpA K H O (v :: vs) (d :: ds)
end
section
variable {K : PySem.W.Frag} {H H' : Hp} {O O' : Addr → Prop}
theorem rd_keep {a : Addr} {u : HO} (h : Rd H a u) (k : ∀ a o, H a = some o → ¬ O a → H' a = some o) (n : ¬ O a) : Rd H' a u := by
  rcases h with h | ⟨o, h⟩
  · exact .inl (k _ _ h n)
  · exact .inr ⟨o, k _ _ h n⟩
theorem rd_some {a : Addr} {u : HO} (h : Rd H a u) : H a ≠ Option.none := by
  rcases h with h | ⟨o, h⟩ <;> rw [h] <;> exact fun z => nomatch z
mutual
theorem Rp.keep (k : ∀ a o, H a = some o → ¬ O a → H' a = some o) (hO : ∀ a, O' a → O a ∨ H a = none) : ∀ (d : PyData) (v : V), Rp K H O v d → Rp K H' O' v d
  | .none, _, h => by cases h; exact .non
  | .bool b, _, h => by cases h; exact .bl b
  | .int i, _, h => by cases h; exact .int i
  | .str x, _, h => by cases h; exact .str x
  | .list ds, _, h => by
    cases h with
    | lst h1 h2 h3 => exact .lst (rd_keep h1 k h2) (fun z => (hO _ z).elim h2 (rd_some h1)) (RpA.keep k hO ds _ h3)
  | .tuple ds, _, h => by
    cases h with
    | tup h1 h3 =>
      refine .tup ?_ (RpA.keep k hO ds _ h3)
      rcases h1 with ⟨h1, h2⟩ | h1
      · exact .inl ⟨rd_keep h1 k h2, fun z => (hO _ z).elim h2 (rd_some h1)⟩
      · exact .inr h1
  | .dict _, _, h => by cases h
theorem RpA.keep (k : ∀ a o, H a = some o → ¬ O a → H' a = some o) (hO : ∀ a, O' a → O a ∨ H a = none) : ∀ (ds : List PyData) (vs : List V), RpA K H O vs ds → RpA K H' O' vs ds
  | [], _, h => by cases h; exact .nil
  | d :: ds, _, h => by
    cases h with
    | cons h1 h2 => exact .cons (Rp.keep k hO d _ h1) (RpA.keep k hO ds _ h2)
end
/-- all kept -/
theorem Rp.same {v : V} {d : PyData} (s : Same H H') (h : Rp K H O v d) : Rp K H' O v d := Rp.keep (fun a o e _ => s a o e) (fun _ z => .inl z) d v h
theorem RpA.same {vs : List V} {ds : List PyData} (s : Same H H') (h : RpA K H O vs ds) : RpA K H' O vs ds := RpA.keep (fun a o e _ => s a o e) (fun _ z => .inl z) ds vs h
/-- fewer owned ones -/
theorem Rp.less {v : V} {d : PyData} (h : Rp K H O v d) (hO : ∀ a, O' a → O a) : Rp K H O' v d := Rp.keep (fun _ _ e _ => e) (fun a z => .inl (hO a z)) d v h
theorem RpA.less {vs : List V} {ds : List PyData} (h : RpA K H O vs ds) (hO : ∀ a, O' a → O a) : RpA K H O' vs ds := RpA.keep (fun _ _ e _ => e) (fun a z => .inl (hO a z)) ds vs h
theorem RpA.length : ∀ {vs : List V} {ds : List PyData}, RpA K H O vs ds → vs.length = ds.length
  | _, _, .nil => rfl
  | _, _, .cons _ h => by simp [RpA.length h]
theorem RpA.get : ∀ {vs : List V} {ds : List PyData} {i : Nat} {d : PyData}, RpA K H O vs ds → ds[i]? = some d → ∃ v, vs[i]? = some v ∧ Rp K H O v d
  | _, _, _, _, .nil, e => by simp at e
  | _, _, 0, _, .cons h _, e => by simp at e; subst e; exact ⟨_, rfl, h⟩
  | _, _, i + 1, _, .cons _ h, e => by simpa using RpA.get h (by simpa using e)
theorem RpA.getV : ∀ {vs : List V} {ds : List PyData} {i : Nat} {v : V}, RpA K H O vs ds → vs[i]? = some v → ∃ d, ds[i]? = some d ∧ Rp K H O v d
  | _, _, _, _, .nil, e => by simp at e
  | _, _, 0, _, .cons h _, e => by simp at e; subst e; exact ⟨_, rfl, h⟩
  | _, _, i + 1, _, .cons _ h, e => by simpa using RpA.getV h (by simpa using e)
theorem RpA.append : ∀ {xs ys : List V} {ds es : List PyData}, RpA K H O xs ds → RpA K H O ys es → RpA K H O (xs ++ ys) (ds ++ es)
  | _, _, _, _, .nil, h => h
  | _, _, _, _, .cons h t, h' => .cons h (RpA.append t h')
theorem RpA.one {v : V} {d : PyData} (h : Rp K H O v d) : RpA K H O [v] [d] := .cons h .nil
theorem RpA.take : ∀ {xs : List V} {ds : List PyData} (n : Nat), RpA K H O xs ds → RpA K H O (xs.take n) (ds.take n)
  | _, _, 0, _ => .nil
  | _, _, _ + 1, .nil => .nil
  | _, _, n + 1, .cons h t => .cons h (RpA.take n t)
theorem RpA.drop : ∀ {xs : List V} {ds : List PyData} (n : Nat), RpA K H O xs ds → RpA K H O (xs.drop n) (ds.drop n)
  | _, _, 0, h => h
  | _, _, _ + 1, .nil => .nil
  | _, _, n + 1, .cons _ t => RpA.drop n t
theorem RpA.set {v : V} {d : PyData} (h : Rp K H O v d) : ∀ {xs : List V} {ds : List PyData} (i : Nat), RpA K H O xs ds → RpA K H O (xs.set i v) (ds.set i d)
  | _, _, _, .nil => .nil
  | _, _, 0, .cons _ t => .cons h t
  | _, _, i + 1, .cons q t => .cons q (RpA.set h i t)
theorem RpA.reverse {xs : List V} {ds : List PyData} (h : RpA K H O xs ds) : RpA K H O xs.reverse ds.reverse := by
  have go : ∀ {xs : List V} {ds : List PyData}, RpA K H O xs ds → RpA K H O xs.reverse ds.reverse := by
    intro xs
    induction xs with
    | nil => intro ds h; cases h; exact .nil
    | cons x xs ih =>
      intro ds h
      cases h with
      | cons h t =>
        rw [List.reverse_cons, List.reverse_cons]
        exact RpA.append (ih t) (.one h)
  exact go h
theorem RpA.dropLast {xs : List V} {ds : List PyData} (h : RpA K H O xs ds) : RpA K H O xs.dropLast ds.dropLast := by
  rw [List.dropLast_eq_take, List.dropLast_eq_take, h.length]
  exact h.take _
theorem RpA.rep {xs : List V} {ds : List PyData} (h : RpA K H O xs ds) : ∀ k : Nat, RpA K H O (List.replicate k xs).flatten (List.replicate k ds).flatten
  | 0 => .nil
  | k + 1 => by
    rw [List.replicate_succ, List.replicate_succ, List.flatten_cons, List.flatten_cons]
    exact h.append (RpA.rep h k)
theorem RpA.each {xs : List V} {ds : List PyData} (hl : xs.length = ds.length) (h : ∀ (i : Nat) v d, xs[i]? = some v → ds[i]? = some d → Rp K H O v d) : RpA K H O xs ds := by
  induction xs generalizing ds with
  | nil =>
    cases ds with
    | nil => exact .nil
    | cons d ds => simp at hl
  | cons x xs ih =>
    cases ds with
    | nil => simp at hl
    | cons d ds => exact .cons (h 0 x d rfl rfl) (ih (by simpa using hl) fun i v d e1 e2 => h (i + 1) v d (by simpa using e1) (by simpa using e2))
theorem Kt.sq {a : Addr} {xs : List V} (h : Kt K a xs) : SqT K H a xs := .inr h
mutual
theorem Rp.dp : ∀ (d : PyData) (v : V), Rp K H O v d → Dp K H v d
  | .none, _, h => by cases h; exact .non
  | .bool b, _, h => by cases h; exact .bl b
  | .int i, _, h => by cases h; exact .int i
  | .str x, _, h => by cases h; exact .str x
  | .list ds, _, h => by
    cases h with
    | lst h1 h2 h3 => exact .lst (.inl h1) (RpA.dp ds _ h3)
  | .tuple ds, _, h => by
    cases h with
    | tup h1 h3 =>
      refine .tup ?_ (RpA.dp ds _ h3)
      rcases h1 with ⟨h1, h2⟩ | h1
      · exact .inl h1
      · exact .inr h1
  | .dict _, _, h => by cases h
theorem RpA.dp : ∀ (ds : List PyData) (vs : List V), RpA K H O vs ds → DpAll K H vs ds
  | [], _, h => by cases h; exact .nil
  | d :: ds, _, h => by
    cases h with
    | cons h1 h2 => exact .cons (Rp.dp d _ h1) (RpA.dp ds _ h2)
end
theorem rpA_ints {ns : List Int} : RpA K H O (ns.map V.int) (ns.map PyData.int) := by
  induction ns with
  | nil => exact .nil
  | cons n ns ih => exact .cons (.int n) ih
theorem intsOf_eq : ∀ {ds : List PyData} {ns : List Int}, intsOf ds = some ns → ds = ns.map PyData.int
  | [], ns, h => by cases h; rfl
  | .int i :: ds, ns, h => by
    cases e : intsOf ds with
    | none => simp [intsOf, e] at h
    | some l =>
      simp [intsOf, e] at h
      subst h
      rw [intsOf_eq e]
      rfl
  | .none :: _, _, h => by simp [intsOf] at h
  | .bool _ :: _, _, h => by simp [intsOf] at h
  | .str _ :: _, _, h => by simp [intsOf] at h
  | .list _ :: _, _, h => by simp [intsOf] at h
  | .tuple _ :: _, _, h => by simp [intsOf] at h
  | .dict _ :: _, _, h => by simp [intsOf] at h
theorem rpA_int_inv : ∀ {ns : List Int} {vs : List V}, RpA K H O vs (ns.map PyData.int) → vs = ns.map V.int
  | [], _, h => by cases h; rfl
  | n :: ns, _, h => by
    cases h with
    | cons h t => cases h; rw [rpA_int_inv t]; rfl
end

section
variable {K : PySem.W.Frag} {H : Hp} {P P' : Addr → Prop}
theorem rd_tup {a : Addr} {xs : List V} (h : Rd H a (.tup xs)) (hP : ∀ a, P' a → ∃ xs, H a = some (.lst xs)) : ¬ P' a := fun z => by
  obtain ⟨ys, q⟩ := hP a z
  rcases h with h | ⟨o, h⟩ <;> (rw [q] at h; cases h)
mutual
/-- where no list lies within, all lists may be owned -/
theorem Rp.nolist (hP : ∀ a, P' a → ∃ xs, H a = some (.lst xs)) : ∀ (d : PyData) (v : V), PV.nolist d = true → Rp K H P v d → Rp K H P' v d
  | .none, _, _, h => by cases h; exact .non
  | .bool b, _, _, h => by cases h; exact .bl b
  | .int i, _, _, h => by cases h; exact .int i
  | .str x, _, _, h => by cases h; exact .str x
  | .list ds, _, n, h => by cases n
  | .tuple ds, _, n, h => by
    cases h with
    | tup h1 h3 =>
      refine .tup ?_ (RpA.nolist hP ds _ (by simpa [PV.nolist] using n) h3)
      rcases h1 with ⟨h1, h2⟩ | h1
      · exact .inl ⟨h1, rd_tup h1 hP⟩
      · exact .inr h1
  | .dict _, _, _, h => by cases h
theorem RpA.nolist (hP : ∀ a, P' a → ∃ xs, H a = some (.lst xs)) : ∀ (ds : List PyData) (vs : List V), nolistA ds = true → RpA K H P vs ds → RpA K H P' vs ds
  | [], _, _, h => by cases h; exact .nil
  | d :: ds, _, n, h => by
    have n' : PV.nolist d = true ∧ nolistA ds = true := by simpa [nolistA] using n
    cases h with
    | cons h1 h2 => exact .cons (Rp.nolist hP d _ n'.1 h1) (RpA.nolist hP ds _ n'.2 h2)
end
end

/-- as Rp, or an owned list's items -/
def RpB (K : PySem.W.Frag) (H : Hp) (P : Addr → Prop) (v : V) (d : PyData) : Prop :=
  Rp K H P v d ∨ ∃ a xs ds, v = .ref a ∧ d = .list ds ∧ H a = some (.lst xs) ∧ RpA K H P xs ds
/-- an expression's value: new lists are told -/
def RpR (K : PySem.W.Frag) (H0 H : Hp) (P : Addr → Prop) (b : Bool) (v : V) : R → Prop
  | (true, d) => ∃ a xs ds, v = .ref a ∧ d = .list ds ∧ H a = some (.lst xs) ∧ H0 a = none ∧ RpA K H (fun x => P x ∨ x = a) xs ds
  | (false, d) => if b then RpB K H P v d else Rp K H P v d
/-- what a slot holds -/
def RpS (K : PySem.W.Frag) (H : Hp) (P : Addr → Prop) (ai : Option Addr) (v : V) : R → Prop
  | (false, d) => Rp K H P v d
  | (true, d) => ∃ a xs ds, ai = some a ∧ v = .ref a ∧ d = .list ds ∧ H a = some (.lst xs) ∧ RpA K H P xs ds
/-- the owned addresses -/
def Ow (O : Addr → Prop) (A : Nat → Option Addr) : Addr → Prop := fun a => O a ∨ ∃ i, A i = some a
structure Ok (K : PySem.W.Frag) (O : Addr → Prop) (H0 : Hp) (A : Nat → Option Addr) (H : Hp) (σ : L2.St) (ρ : Sl) : Prop where
  len : σ.length = ρ.length
  grow : Same H0 H
  inj : ∀ i j a, A i = some a → A j = some a → i = j
  new : ∀ i a, A i = some a → H0 a = none
  dom : ∀ i a, A i = some a → ∃ xs, H a = some (.lst xs)
  odom : ∀ a, O a → ∃ xs, H0 a = some (.lst xs)
  val : ∀ i r, ρ[i]? = some (some r) → ∃ v, σ[i]? = some (some v) ∧ RpS K H (Ow O A) (A i) v r
section
variable {K : PySem.W.Frag} {O : Addr → Prop} {H0 H H' : Hp} {A : Nat → Option Addr} {σ : L2.St} {ρ : Sl}
theorem RpB.same {P : Addr → Prop} {v : V} {d : PyData} (s : Same H H') (h : RpB K H P v d) : RpB K H' P v d := by
  rcases h with h | ⟨a, xs, ds, e1, e2, e3, h⟩
  · exact .inl (h.same s)
  · exact .inr ⟨a, xs, ds, e1, e2, s _ _ e3, h.same s⟩
theorem RpB.dp {P : Addr → Prop} {v : V} {d : PyData} (h : RpB K H P v d) : Dp K H v d := by
  rcases h with h | ⟨a, xs, ds, e1, e2, e3, h⟩
  · exact Rp.dp _ _ h
  · subst e1 e2
    exact .lst (.inl (.inl e3)) (RpA.dp _ _ h)
theorem RpB.list {P : Addr → Prop} {v : V} {ds : List PyData} (h : RpB K H P v (.list ds)) : ∃ a xs, v = .ref a ∧ Rd H a (.lst xs) ∧ RpA K H P xs ds := by
  rcases h with h | ⟨a, xs, ds', e1, e2, e3, h⟩
  · cases h with
    | lst h1 h2 h3 => exact ⟨_, _, rfl, h1, h3⟩
  · cases e2
    exact ⟨a, xs, e1, .inl e3, h⟩
theorem RpB.tuple {P : Addr → Prop} {v : V} {ds : List PyData} (h : RpB K H P v (.tuple ds)) : ∃ a xs, v = .ref a ∧ SqT K H a xs ∧ RpA K H P xs ds := by
  rcases h with h | ⟨a, xs, ds', e1, e2, e3, h⟩
  · cases h with
    | tup h1 h3 =>
      rcases h1 with ⟨h1, _⟩ | h1
      · exact ⟨_, _, rfl, .inl h1, h3⟩
      · exact ⟨_, _, rfl, .inr h1, h3⟩
  · cases e2
theorem RpB.int {P : Addr → Prop} {v : V} {i : Int} (h : RpB K H P v (.int i)) : v = .int i := by
  rcases h with h | ⟨a, xs, ds', e1, e2, e3, h⟩
  · cases h; rfl
  · cases e2
theorem RpB.bool {P : Addr → Prop} {v : V} {k : Bool} (h : RpB K H P v (.bool k)) : v = .bl k := by
  rcases h with h | ⟨a, xs, ds', e1, e2, e3, h⟩
  · cases h; rfl
  · cases e2
theorem RpB.none {P : Addr → Prop} {v : V} (h : RpB K H P v .none) : v = .non := by
  rcases h with h | ⟨a, xs, ds', e1, e2, e3, h⟩
  · cases h; rfl
  · cases e2
theorem RpB.notnone {P : Addr → Prop} {v : V} {d : PyData} (h : RpB K H P v d) : decide (v = .non) = isNone d := by
  rcases h with h | ⟨a, xs, ds', e1, e2, e3, h⟩
  · cases h <;> rfl
  · subst e1 e2; rfl
/-- new lists become shared -/
theorem Ok.down (ok : Ok K O H0 A H σ ρ) (s : Same H H') {v : V} {r : R} (h : RpR K H H' (Ow O A) false v r) : Rp K H' (Ow O A) v r.2 := by
  obtain ⟨fl, d⟩ := r
  cases fl with
  | false => exact h
  | true =>
    obtain ⟨a, xs, ds, rfl, e2, e3, e4, h⟩ := h
    have e2 : d = .list ds := e2
    subst e2
    refine .lst (.inl e3) (fun z => ?_) (h.less fun x z => .inl z)
    rcases z with z | ⟨i, z⟩
    · obtain ⟨ys, q⟩ := ok.odom a z
      rw [ok.grow a _ q] at e4; cases e4
    · obtain ⟨xs, q⟩ := ok.dom i a z
      rw [q] at e4; cases e4
theorem Ok.downB (ok : Ok K O H0 A H σ ρ) (s : Same H H') {v : V} {r : R} (h : RpR K H H' (Ow O A) true v r) : RpB K H' (Ow O A) v r.2 := by
  obtain ⟨fl, d⟩ := r
  cases fl with
  | false => exact h
  | true =>
    obtain ⟨a, xs, ds, e1, e2, e3, e4, h⟩ := h
    exact .inr ⟨a, xs, ds, e1, e2, e3, h.less fun x z => .inl z⟩
theorem RpS.same {P : Addr → Prop} {ai : Option Addr} {v : V} {r : R} (s : Same H H') (h : RpS K H P ai v r) : RpS K H' P ai v r := by
  obtain ⟨fl, d⟩ := r
  cases fl with
  | false => exact Rp.same s h
  | true =>
    obtain ⟨a, xs, ds, e1, e2, e3, e4, h⟩ := h
    exact ⟨a, xs, ds, e1, e2, e3, s _ _ e4, h.same s⟩
theorem Ok.same (ok : Ok K O H0 A H σ ρ) (s : Same H H') : Ok K O H0 A H' σ ρ where
  len := ok.len
  grow := ok.grow.trans s
  inj := ok.inj
  new := ok.new
  dom := fun i a e => let ⟨xs, q⟩ := ok.dom i a e; ⟨xs, s _ _ q⟩
  odom := ok.odom
  val := fun i r e => let ⟨v, e1, h⟩ := ok.val i r e; ⟨v, e1, h.same s⟩
/-- what is owned is there -/
theorem Ok.own_some (ok : Ok K O H0 A H σ ρ) {a : Addr} (h : Ow O A a) : H a ≠ none := by
  rcases h with z | ⟨i, z⟩
  · obtain ⟨xs, q⟩ := ok.odom a z
    rw [ok.grow a _ q]; exact fun z => nomatch z
  · obtain ⟨xs, q⟩ := ok.dom i a z
    rw [q]; exact fun z => nomatch z
theorem Ok.own_lst (ok : Ok K O H0 A H σ ρ) {a : Addr} (h : Ow O A a) : ∃ xs, H a = some (.lst xs) := by
  rcases h with z | ⟨i, z⟩
  · obtain ⟨xs, q⟩ := ok.odom a z
    exact ⟨xs, ok.grow a _ q⟩
  · exact ok.dom i a z
theorem Ok.fresh (ok : Ok K O H0 A H σ ρ) {a : Addr} (h : H a = none) : ¬ Ow O A a := fun z => ok.own_some z h
/-- a shared value goes into a slot -/
theorem Ok.set (ok : Ok K O H0 A H σ ρ) {i : Nat} {v : V} {d : PyData} (h : Rp K H (Ow O A) v d) : Ok K O H0 A H (σ.set i (some v)) (ρ.set i (some (false, d))) where
  len := by rw [List.length_set, List.length_set, ok.len]
  grow := ok.grow
  inj := ok.inj
  new := ok.new
  dom := ok.dom
  odom := ok.odom
  val := fun j r e => by
    by_cases hj : i = j
    · subst hj
      by_cases hl : i < ρ.length
      · rw [List.getElem?_set_self hl] at e
        cases e
        exact ⟨v, by rw [List.getElem?_set_self (by rw [ok.len]; exact hl)], h⟩
      · rw [List.getElem?_eq_none (by simpa using hl)] at e; cases e
    · rw [List.getElem?_set_ne hj] at e
      obtain ⟨v', e1, h'⟩ := ok.val j r e
      exact ⟨v', by rw [List.getElem?_set_ne hj]; exact e1, h'⟩
/-- slots forgotten -/
theorem Ok.wipe (ok : Ok K O H0 A H σ ρ) (vs : List Nat) : Ok K O H0 A H (wipe σ vs) (wipeR ρ vs) := by
  have ex : ∀ vs : List Nat, (wipeR ρ vs).length = ρ.length ∧ ∀ (i : Nat) r, (wipeR ρ vs)[i]? = some (some r) → ρ[i]? = some (some r) ∧ i ∉ vs := by
    intro vs
    induction vs with
    | nil => exact ⟨rfl, fun i r e => ⟨e, by simp⟩⟩
    | cons v vs ih =>
      refine ⟨by show ((wipeR ρ vs).set v none).length = _; rw [List.length_set]; exact ih.1, fun i r e => ?_⟩
      have e : ((wipeR ρ vs).set v none)[i]? = some (some r) := e
      by_cases hi : v = i
      · subst hi
        by_cases hl : v < (wipeR ρ vs).length
        · rw [List.getElem?_set_self hl] at e; cases e
        · rw [List.getElem?_eq_none (by simpa using hl)] at e; cases e
      · rw [List.getElem?_set_ne hi] at e
        obtain ⟨h1, h2⟩ := ih.2 i r e
        exact ⟨h1, by simp only [List.mem_cons, not_or]; exact ⟨fun z => hi z.symm, h2⟩⟩
  refine ⟨by rw [wipe_length, (ex vs).1, ok.len], ok.grow, ok.inj, ok.new, ok.dom, ok.odom, fun i r e => ?_⟩
  obtain ⟨h1, h2⟩ := (ex vs).2 i r e
  obtain ⟨v, e1, h⟩ := ok.val i r h1
  exact ⟨v, by rw [wipe_out h2]; exact e1, h⟩
/-- a new list goes into a slot that owns it -/
theorem Ok.setOwn (ok : Ok K O H0 A H σ ρ) {i : Nat} {a : Addr} {xs : List V} {ds : List PyData} (s : Same H H') (hn : H a = none) (ha : H' a = some (.lst xs)) (h : RpA K H' (fun x => Ow O A x ∨ x = a) xs ds) :
    Ok K O H0 (fun j => if j = i then some a else A j) H' (σ.set i (some (.ref a))) (ρ.set i (some (true, .list ds))) := by
  have sub : ∀ x, Ow O (fun j => if j = i then some a else A j) x → Ow O A x ∨ x = a := by
    intro x z
    rcases z with z | ⟨j, z⟩
    · exact .inl (.inl z)
    · by_cases hj : j = i
      · simp only [hj, if_true] at z
        exact .inr (Option.some.inj z).symm
      · simp only [hj, if_false] at z
        exact .inl (.inr ⟨j, z⟩)
  have na : ¬ Ow O A a := ok.fresh hn
  refine ⟨by rw [List.length_set, List.length_set, ok.len], ok.grow.trans s, fun j k b e1 e2 => ?_, fun j b e => ?_, fun j b e => ?_, ok.odom, fun j r e => ?_⟩
  · by_cases hj : j = i
    · by_cases hk : k = i
      · rw [hj, hk]
      · simp only [hj, if_true, hk, if_false] at e1 e2
        exact absurd (.inr ⟨k, by rw [e2, ← Option.some.inj e1]⟩) na
    · by_cases hk : k = i
      · simp only [hk, if_true, hj, if_false] at e1 e2
        exact absurd (.inr ⟨j, by rw [e1, ← Option.some.inj e2]⟩) na
      · simp only [hk, if_false, hj] at e1 e2
        exact ok.inj j k b e1 e2
  · by_cases hj : j = i
    · simp only [hj, if_true] at e
      rw [← Option.some.inj e]
      exact ok.grow.free hn
    · simp only [hj, if_false] at e
      exact ok.new j b e
  · by_cases hj : j = i
    · simp only [hj, if_true] at e
      rw [← Option.some.inj e]; exact ⟨xs, ha⟩
    · simp only [hj, if_false] at e
      obtain ⟨ys, q⟩ := ok.dom j b e
      exact ⟨ys, s _ _ q⟩
  · by_cases hj : i = j
    · subst hj
      by_cases hl : i < ρ.length
      · rw [List.getElem?_set_self hl] at e
        cases e
        refine ⟨.ref a, by rw [List.getElem?_set_self (by rw [ok.len]; exact hl)], a, xs, ds, by simp, rfl, rfl, ha, ?_⟩
        exact h.less sub
      · rw [List.getElem?_eq_none (by simpa using hl)] at e; cases e
    · rw [List.getElem?_set_ne hj] at e
      obtain ⟨v', e1, h'⟩ := ok.val j r e
      refine ⟨v', by rw [List.getElem?_set_ne hj]; exact e1, ?_⟩
      have hji : ¬ j = i := fun z => hj z.symm
      have hO : ∀ x, Ow O (fun j => if j = i then some a else A j) x → Ow O A x ∨ H x = none := fun x z => (sub x z).elim .inl fun e => .inr (by rw [e]; exact hn)
      obtain ⟨fl, d⟩ := r
      cases fl with
      | false => exact Rp.keep (fun _ _ e _ => s _ _ e) hO _ _ h'
      | true =>
        obtain ⟨b, ys, es, q1, q2, q3, q4, h'⟩ := h'
        exact ⟨b, ys, es, by simp only [hji, if_false]; exact q1, q2, q3, s _ _ q4, RpA.keep (fun _ _ e _ => s _ _ e) hO _ _ h'⟩
/-- an owned list of a slot is changed -/
theorem Ok.upd (ok : Ok K O H0 A H σ ρ) {i : Nat} {a : Addr} {ys : List V} {es : List PyData} (hA : A i = some a) (hv : σ[i]? = some (some (.ref a))) (h : RpA K H (Ow O A) ys es) :
    Ok K O H0 A (L2.upd H a (.lst ys)) σ (ρ.set i (some (true, .list es))) := by
  have k : ∀ b o, H b = some o → ¬ Ow O A b → (L2.upd H a (.lst ys)) b = some o := fun b o e n => by
    rw [upd_ne (fun z => n (.inr ⟨i, by rw [z]; exact hA⟩))]; exact e
  refine ⟨by rw [List.length_set, ok.len], fun b o e => ?_, ok.inj, ok.new, fun j b e => ?_, ok.odom, fun j r e => ?_⟩
  · rw [upd_ne (fun z => ?_)]
    · exact ok.grow b o e
    · subst z
      rw [ok.new i b hA] at e; cases e
  · by_cases hb : b = a
    · exact ⟨ys, by rw [hb]; exact upd_same⟩
    · obtain ⟨xs, q⟩ := ok.dom j b e
      exact ⟨xs, by rw [upd_ne hb]; exact q⟩
  · by_cases hj : i = j
    · subst hj
      by_cases hl : i < ρ.length
      · rw [List.getElem?_set_self hl] at e
        cases e
        exact ⟨.ref a, hv, a, ys, es, hA, rfl, rfl, upd_same, RpA.keep k (fun _ z => .inl z) _ _ h⟩
      · rw [List.getElem?_eq_none (by simpa using hl)] at e; cases e
    · rw [List.getElem?_set_ne hj] at e
      obtain ⟨v', e1, h'⟩ := ok.val j r e
      refine ⟨v', e1, ?_⟩
      obtain ⟨fl, d⟩ := r
      cases fl with
      | false => exact Rp.keep k (fun _ z => .inl z) _ _ h'
      | true =>
        obtain ⟨b, zs, fs, q1, q2, q3, q4, h'⟩ := h'
        refine ⟨b, zs, fs, q1, q2, q3, ?_, RpA.keep k (fun _ z => .inl z) _ _ h'⟩
        rw [upd_ne (fun z => hj (ok.inj i j a hA (by rw [← z]; exact q1)))]
        exact q4
/-- an owned list becomes shared -/
theorem Ok.share (ok : Ok K O H0 A H σ ρ) {i : Nat} {d : PyData} (he : ρ[i]? = some (some (true, d))) :
    Ok K O H0 (fun j => if j = i then none else A j) H σ (ρ.set i (some (false, d))) := by
  have sub : ∀ x, Ow O (fun j => if j = i then none else A j) x → Ow O A x := by
    intro x z
    rcases z with z | ⟨j, z⟩
    · exact .inl z
    · by_cases hj : j = i
      · simp only [hj, if_true] at z; cases z
      · simp only [hj, if_false] at z
        exact .inr ⟨j, z⟩
  refine ⟨by rw [List.length_set, ok.len], ok.grow, fun j k b e1 e2 => ?_, fun j b e => ?_, fun j b e => ?_, ok.odom, fun j r e => ?_⟩
  · by_cases hj : j = i
    · simp only [hj, if_true] at e1; cases e1
    · by_cases hk : k = i
      · simp only [hk, if_true] at e2; cases e2
      · simp only [hj, hk, if_false] at e1 e2
        exact ok.inj j k b e1 e2
  · by_cases hj : j = i
    · simp only [hj, if_true] at e; cases e
    · simp only [hj, if_false] at e; exact ok.new j b e
  · by_cases hj : j = i
    · simp only [hj, if_true] at e; cases e
    · simp only [hj, if_false] at e; exact ok.dom j b e
  · by_cases hj : i = j
    · subst hj
      by_cases hl : i < ρ.length
      · rw [List.getElem?_set_self hl] at e
        cases e
        obtain ⟨v, e1, a, xs, ds, q1, q2, q3, q4, h⟩ := ok.val i _ he
        refine ⟨v, e1, ?_⟩
        subst q2 q3
        refine .lst (.inl q4) (fun z => ?_) (h.less sub)
        rcases z with z | ⟨j, z⟩
        · obtain ⟨ys, q⟩ := ok.odom a z
          rw [ok.new i a q1] at q; cases q
        · by_cases hj : j = i
          · simp only [hj, if_true] at z; cases z
          · simp only [hj, if_false] at z
            exact hj (ok.inj j i a z q1)
      · rw [List.getElem?_eq_none (by simpa using hl)] at e; cases e
    · rw [List.getElem?_set_ne hj] at e
      obtain ⟨v', e1, h'⟩ := ok.val j r e
      refine ⟨v', e1, ?_⟩
      have hji : ¬ j = i := fun z => hj z.symm
      obtain ⟨fl, d⟩ := r
      cases fl with
      | false => exact Rp.less h' sub
      | true =>
        obtain ⟨b, zs, fs, q1, q2, q3, q4, h'⟩ := h'
        exact ⟨b, zs, fs, by simp only [hji, if_false]; exact q1, q2, q3, q4, h'.less sub⟩
end
end PV

set_option Elab.async false
set_option linter.all false
set_option maxRecDepth 100000
set_option maxHeartbeats 4000000
/-! PV3: operators, comparisons, subscripts, calls of built-ins over plain values. -/
namespace PV
open PySem PySem.Spec PyProof.Rows L2

section
variable {X : Cx}

/-- lists that are read -/
theorem lstR {pins : List (Addr × Obj)} {σ : L2.St} {H : Hp} {s : Shared} {l : Addr} {xs : List V} (I : Inv X pins σ H s) (hH : Rd H l (.lst xs)) :
    xs.length ≤ sizeLine ∧ ∃ (its : List Value) (n : Nat), Vals xs its ∧ xs.length = its.length ∧ s.heap.get? l = some { cls := .type "list", data := .seq its.toArray n } := by
  obtain ⟨z, its, n, r, e⟩ := hH.ok I.hok
  exact ⟨z, its, n, r, r.length, e⟩
theorem same_upd {H : Hp} {p : Addr} {o : HO} (h : H p = none) : Same H (upd H p o) := fun b x e => by
  rw [upd_ne (ne_of_none e h)]
  exact e
theorem LINE_eq : LINE = sizeLine := by rw [sizeLine_eq]; rfl
theorem lenOk_le {n : Nat} (h : lenOk n = true) : n ≤ sizeLine := by rw [← LINE_eq]; exact Nat.le_of_ble_eq_true h
theorem op_catS : OpR X (binaryOp .Add) (fun x y H Q => ∃ l b xs zs, x = .ref l ∧ y = .ref b ∧ Rd H l (.lst xs) ∧ Rd H b (.lst zs) ∧ xs.length + zs.length ≤ sizeLine ∧ ∀ p, H p = none → Q (.ref p) (upd H p (.lst (xs ++ zs)))) := by
  intro pins s σ H x y v u Q I rx ry h
  obtain ⟨l, b, xs, zs, rfl, rfl, hH, hB, hz, q⟩ := h
  cases rx
  cases ry
  obtain ⟨z, its, n, r, hl, e⟩ := lstR I hH
  obtain ⟨z2, its2, n2, r2, hl2, e2⟩ := lstR I hB
  refine PySem.P.add_list e e2 ?_ (by rw [List.size_toArray, List.size_toArray]; omega)
  have ea : its.toArray ++ its2.toArray = (its ++ its2).toArray := by simp
  rw [ea]
  exact ⟨.ref _, _, I.lnew (t' := s.toks) (r.append r2) (by rw [List.length_append]; omega), rfl, q _ I.fresh⟩
theorem op_repS : OpR X (binaryOp .Mult) (fun x y H Q => ∃ l k xs, x = .ref l ∧ y = .int k ∧ Rd H l (.lst xs) ∧ -(2 ^ 63) ≤ k ∧ k < 2 ^ 63 ∧ xs.length * k.toNat ≤ sizeLine ∧
  ∀ p, H p = none → Q (.ref p) (upd H p (.lst (List.replicate k.toNat xs).flatten))) := by
  intro pins s σ H x y v u Q I rx ry h
  obtain ⟨l, k, xs, rfl, rfl, hH, h1, h2, hz, q⟩ := h
  cases rx
  obtain ⟨t, rfl⟩ := ry
  obtain ⟨z, its, n, r, hl, e⟩ := lstR I hH
  have hlen : its.toArray.size * k.toNat ≤ sizeLine := by rw [List.size_toArray, ← hl]; exact hz
  have hcap : ¬ its.toArray.size * k.toNat > (2 ^ 63 - 1) / 8 := by
    have : (sizeLine : Nat) ≤ (2 ^ 63 - 1) / 8 := by decide
    omega
  have hfit : ¬ (!Builtin.List.listFitsIndex k) = true := by
    rw [fitsIndex_both h1 h2]
    exact Bool.false_ne_true
  have hlong : ¬ Builtin.List.listTooLong (its.toArray.size * k.toNat) = true := by
    rw [notLongL hlen]
    exact Bool.false_ne_true
  have hnew : List.foldl (fun x1 x2 => x1 ++ x2) #[] (List.replicate (if its.toArray.isEmpty = true then 0 else k.toNat) its.toArray) = (List.replicate k.toNat its).flatten.toArray := by
    have f0 : ∀ m : Nat, List.foldl (fun x1 x2 => x1 ++ x2) #[] (List.replicate m its.toArray) = (List.replicate m its).flatten.toArray := fun m => by
      have := foldl_rep its m []
      rw [List.nil_append] at this
      exact this
    rw [f0]
    cases its with
    | nil => simp
    | cons a r' => rw [if_neg (by simp)]
  refine wpAny_binaryOp_repeat_ref (T := "list") (U := "int") (by decide) ⟨_, e, rfl⟩ (fun s' => typeIs_int s' k t) noFill_list_mul F.fills_int_mul F.slot_int_rmul repeat_list F.slot_int_index.lookup
    (call_meets F.slot_int_rmul (typeIs_int s k t) F.entry_int_rmul (F.args_int_rmul_2 _ _) (int___rmul___int_list k t l its.toArray n)
      ⟨e, rfl, ⟨_, e, rfl⟩, call_meets F.slot_list_mul ⟨_, e, rfl⟩ F.entry_list_mul (F.args_list_mul_2 _ _) (AutoListH.list___mul___list_int_3 l its.toArray n k t hfit hcap hlong) ⟨e, ?_⟩⟩)
  rw [hnew]
  exact ⟨.ref _, _, I.lnew (t' := s.toks) (r.rep k.toNat) (by rw [PyProof.Rows.lm_len_rep_flat, Nat.mul_comm]; exact hz), rfl, q _ I.fresh⟩
theorem ext_tup (l : Addr) (us : Array Value) (n : Nat) (b : Addr) (zs : Array Value) (n2 : Nat) (kd : Option Addr) (ks : Array (Option Value)) (c0 : ¬(!us.isEmpty && Builtin.List.listTooLong (us.size + zs.size)) = true) (c1 : us.size ≤ sizeLine) (c2 : us.size + zs.size ≤ sizeLine + 1) :
    Meets (Builtin.«list.extend» ⟨[.ref l, .ref b], []⟩) (fun _ R s => s.heap.get? l = some { cls := .type "list", dict := none, data := .seq us n, slots := #[] } ∧ s.heap.get? b = some { cls := .type "tuple", dict := kd, data := .seq zs n2, slots := ks } ∧
      R (.ok (.ret Value.none)) { s with heap := s.heap.update l (Obj.mapSeq fun x => x ++ zs), toks := s.toks }) :=
  .of_wp fun prog w A R s h => by
    obtain ⟨hp, g, d, tk, os⟩ := s
    obtain ⟨hl, hb, h⟩ := h
    have f1 := AutoSeq1.idx_int; have f2 := AutoSeq1.sub_tuple_tuple; have f3 := AutoSeq1.sub_list_list; have f4 := AutoSeq1.sub_tuple_list; have f5 := AutoSeq1.sub_list_tuple
    have z0 : (us ++ zs).size ≤ sizeLine + 1 := by rw [Array.size_append]; exact c2
    wp_walk using (wpAny_updateSeq hl rfl (hz := c1) (_hz' := z0)), wpAny_loadPart' hl, wpAny_loadPart' hb
    exact ⟨_, rfl, h⟩
theorem mt_extendS : MtM X "list.extend" (fun x vs H Q => ∃ l b xs zs, x = .ref l ∧ vs = [.ref b] ∧ H l = some (.lst xs) ∧ (Rd H b (.lst zs) ∨ SqT X.K H b zs) ∧ xs.length + zs.length ≤ sizeLine ∧ Q .non (upd H l (.lst (xs ++ zs)))) := by
  intro pins s σ H x vs v us Q I rx rv h
  obtain ⟨l, b, xs, zs, rfl, rfl, hH, hB, hz, q⟩ := h
  cases rx
  obtain ⟨u, rfl, ru⟩ := rv.one
  cases ru
  obtain ⟨z, its, n, r, hl, e⟩ := I.lstM hH
  rcases hB with hB | hB
  · obtain ⟨z2, its2, n2, r2, hl2, e2⟩ := lstR I hB
    have hsz : its.toArray.size + its2.toArray.size ≤ sizeLine := by rw [List.size_toArray, List.size_toArray]; omega
    have hlong : ¬ (!its.toArray.isEmpty && Builtin.List.listTooLong (its.toArray.size + its2.toArray.size)) = true := by rw [notLongL hsz, Bool.and_false]; exact Bool.false_ne_true
    refine call_meets F.slot_list_extend ⟨_, e, rfl⟩ F.entry_list_extend (F.args_list_extend_2 _ _)
      (AutoSeq1.list_extend_list_list_0 l its.toArray n b its2.toArray n2 hlong (by rw [List.size_toArray]; omega) (by omega)) ⟨e, e2, ?_⟩
    refine ⟨.non, _, I.lset (its' := its ++ its2) hH e (by simp) (r.append r2) ?_, rfl, q⟩
    rw [List.length_append]
    omega
  · obtain ⟨its2, r2, pl, hz2⟩ := I.tuple hB
    have hl2 := r2.length
    have hsz : its.toArray.size + its2.toArray.size ≤ sizeLine := by rw [List.size_toArray, List.size_toArray]; omega
    have hlong : ¬ (!its.toArray.isEmpty && Builtin.List.listTooLong (its.toArray.size + its2.toArray.size)) = true := by rw [notLongL hsz, Bool.and_false]; exact Bool.false_ne_true
    obtain ⟨ob, ho, hcl, n2, hd2⟩ := pl
    obtain ⟨kc, kd, kx, ks⟩ := ob
    simp only at hcl hd2
    subst hcl; subst hd2
    refine call_meets F.slot_list_extend ⟨_, e, rfl⟩ F.entry_list_extend (F.args_list_extend_2 _ _) (ext_tup l its.toArray n b its2.toArray n2 kd ks hlong (by rw [List.size_toArray]; omega) (by omega)) ⟨e, ho, ?_⟩
    refine ⟨.non, _, I.lset (its' := its ++ its2) hH e (by simp) (r.append r2) ?_, rfl, q⟩
    rw [List.length_append]
    omega

/-! ### + - * // % ** << >> & | -/
def opOf : BOp → Operator
  | .add => .Add | .sub => .Sub | .mul => .Mult | .fdiv => .FloorDiv | .mod => .Mod | .pow => .Pow | .shl => .LShift | .shr => .RShift | .band => .BitAnd | .bor => .BitOr
/-- a value that comes of two -/
abbrev Gives (K : PySem.W.Frag) (H : Hp) (P : Addr → Prop) (r : R) (Q : VK) : Prop := ∀ v H', Same H H' → RpR K H H' P false v r → Q v H'
theorem Gives.sh {K : PySem.W.Frag} {H : Hp} {P : Addr → Prop} {d : PyData} {Q : VK} {v : V} (h : Gives K H P (false, d) Q) (r : Rp K H P v d) : Q v H := h v H (Same.refl H) r
theorem Gives.new {K : PySem.W.Frag} {H : Hp} {P : Addr → Prop} {ds : List PyData} {xs : List V} {Q : VK} (hP : ∀ a, P a → H a ≠ none) (h : Gives K H P (true, .list ds) Q) (r : RpA K H P xs ds) (p : Addr) (hp : H p = none) : Q (.ref p) (upd H p (.lst xs)) :=
  h _ _ (same_upd hp) ⟨p, xs, ds, rfl, rfl, upd_same, hp, RpA.keep (fun a o e _ => same_upd hp a o e) (fun a z => z.elim .inl fun e => .inr (by rw [e]; exact hp)) _ _ r⟩
def rBin (K : PySem.W.Frag) (o : BOp) : R2 := fun x y H Q => ∃ (P : Addr → Prop) (d e : PyData) (r : R), (∀ a, P a → H a ≠ none) ∧ RpB K H P x d ∧ RpB K H P y e ∧ evBin o d e = some r ∧ Gives K H P r Q
theorem mulOk_of {i j : Int} (h : mulOk i j = true) : CMulW i j := Nat.le_of_ble_eq_true h
/-- // by a divisor below 2 ^ 9000, of any sign -/
def CDivF (_ j : Int) : Prop := j ≠ 0 ∧ j.natAbs.log2 < 9000
theorem op_fdivF : OpR X (binaryOp .FloorDiv) (rI CDivF fun i j => .int (i.fdiv j)) := opI fun i j _ _ _ _ _ c q => floordiv_int c.1 q (.inl (PyProof.noPylong_of_log2 c.2))
theorem divOk_of {i j : Int} (h : divOk j = true) : CDivF i j := by
  unfold divOk at h
  rw [Bool.and_eq_true] at h
  exact ⟨of_decide_eq_true h.1, Nat.le_of_ble_eq_true h.2⟩
theorem powOk_of {i j : Int} (h : powOk i j = true) : CPow i j := by
  unfold powOk at h
  rw [Bool.and_eq_true, Bool.and_eq_true] at h
  exact ⟨of_decide_eq_true h.1.1, of_decide_eq_true h.1.2, Nat.le_of_ble_eq_true h.2⟩
theorem op_bin (o : BOp) : OpR X (binaryOp (opOf o)) (rBin X.K o) := by
  intro pins s σ H x y v u Q I rx ry ⟨P, d, e, r, hP, hd, he, ev, q⟩
  cases d <;> cases e <;> try (cases o <;> cases ev)
  case int.int i j =>
    have := hd.int
    have := he.int
    subst x y
    cases o
    case add => cases ev; exact op_add pins s σ H _ _ v u Q I rx ry ⟨i, j, rfl, rfl, q.sh (.int _)⟩
    case sub => cases ev; exact op_sub pins s σ H _ _ v u Q I rx ry ⟨i, j, rfl, rfl, q.sh (.int _)⟩
    case mul =>
      simp only [evBin] at ev
      split at ev
      · rename_i hc; cases ev; exact op_mulW pins s σ H _ _ v u Q I rx ry ⟨i, j, rfl, rfl, mulOk_of hc, q.sh (.int _)⟩
      · cases ev
    case fdiv =>
      simp only [evBin] at ev
      split at ev
      · rename_i hc; cases ev; exact op_fdivF pins s σ H _ _ v u Q I rx ry ⟨i, j, rfl, rfl, divOk_of hc, q.sh (.int _)⟩
      · cases ev
    case mod =>
      simp only [evBin] at ev
      split at ev
      · rename_i hc; cases ev; exact op_mod pins s σ H _ _ v u Q I rx ry ⟨i, j, rfl, rfl, of_decide_eq_true hc, q.sh (.int _)⟩
      · cases ev
    case pow =>
      simp only [evBin] at ev
      split at ev
      · rename_i hc; cases ev; exact op_pow pins s σ H _ _ v u Q I rx ry ⟨i, j, rfl, rfl, powOk_of hc, q.sh (.int _)⟩
      · cases ev
    case shl =>
      simp only [evBin] at ev
      split at ev
      · rename_i hc; cases ev; exact op_shl pins s σ H _ _ v u Q I rx ry ⟨i, j, rfl, rfl, powOk_of hc, q.sh (.int _)⟩
      · cases ev
    case shr =>
      simp only [evBin] at ev
      split at ev
      · rename_i hc; cases ev; exact op_shr pins s σ H _ _ v u Q I rx ry ⟨i, j, rfl, rfl, of_decide_eq_true hc, q.sh (.int _)⟩
      · cases ev
    case band => cases ev; exact op_and pins s σ H _ _ v u Q I rx ry ⟨i, j, rfl, rfl, q.sh (.int _)⟩
    case bor => cases ev; exact op_or pins s σ H _ _ v u Q I rx ry ⟨i, j, rfl, rfl, q.sh (.int _)⟩
  case list.list as bs =>
    cases o
    case add =>
      simp only [evBin] at ev
      split at ev
      · rename_i hc
        cases ev
        obtain ⟨a, xs, rfl, h1, ha⟩ := hd.list
        obtain ⟨b, ys, rfl, h2, hb⟩ := he.list
        refine op_catS pins s σ H _ _ v u Q I rx ry ⟨a, b, xs, ys, rfl, rfl, h1, h2, ?_, fun p hp => q.new hP (ha.append hb) p hp⟩
        rw [ha.length, hb.length]
        exact lenOk_le hc
      · cases ev
    all_goals cases ev
  case list.int as k =>
    cases o
    case mul =>
      simp only [evBin] at ev
      split at ev
      · rename_i hc
        cases ev
        rw [Bool.and_eq_true, Bool.and_eq_true] at hc
        obtain ⟨⟨c1, c2⟩, c3⟩ := hc
        have c1 := of_decide_eq_true c1
        have c2 := of_decide_eq_true c2
        obtain ⟨a, xs, rfl, h1, ha⟩ := hd.list
        have := he.int
        subst y
        refine op_repS pins s σ H _ _ v u Q I rx ry ⟨a, k, xs, rfl, rfl, h1, by omega, by omega, ?_, fun p hp => q.new hP (ha.rep _) p hp⟩
        rw [ha.length]
        exact lenOk_le c3
      · cases ev
    all_goals cases ev
def rNeg (K : PySem.W.Frag) : V → Hp → VK → Prop := fun x H Q => ∃ (P : Addr → Prop) (d : PyData) (r : R), RpB K H P x d ∧ evNeg d = some r ∧ Gives K H P r Q
theorem op_neg : UnR X (unaryOp .USub) (rNeg X.K) := by
  intro pins s σ H x v Q I rx ⟨P, d, r, hd, ev, q⟩
  cases d <;> cases ev
  have := hd.int
  subst x
  exact un_neg pins s σ H _ v Q I rx ⟨_, rfl, q.sh (.int _)⟩

/-! ### comparisons -/
def copOf : COp → CmpOp
  | .eq => .Eq | .ne => .NotEq | .lt => .Lt | .le => .LtE | .gt => .Gt | .ge => .GtE | .isn => .Is | .notn => .IsNot | .inn => .In | .notin => .NotIn
def rCmp (K : PySem.W.Frag) (o : COp) : R2 := fun x y H Q => ∃ (P : Addr → Prop) (d e : PyData) (k : Bool), RpB K H P x d ∧ RpB K H P y e ∧ evCmp o d e = some k ∧ Q (.bl k) H
theorem dok_plain {d : PyData} (h : dok d = true) : d.plain = true ∧ d.depth ≤ 50 := by
  unfold dok at h
  rw [Bool.and_eq_true] at h
  exact ⟨h.2, Nat.le_of_ble_eq_true h.1⟩
theorem op_eqP (hu : X.A.units + 64 < cLine) {neg : Bool} : OpR X (compareOp (if neg then .NotEq else .Eq)) (fun x y H Q => ∃ d e, Dp X.K H x d ∧ Dp X.K H y e ∧ dok d = true ∧ dok e = true ∧ Q (.bl (if neg then !PyData.eqv d e else PyData.eqv d e)) H) := by
  intro pins s σ H x y v u Q I rx ry ⟨d, e, hd, he, od, oe, q⟩
  obtain ⟨as, r1⟩ := Dp.reads I d x v hd rx
  obtain ⟨bs, r2⟩ := Dp.reads I e y u he ry
  obtain ⟨p1, n1⟩ := dok_plain od
  obtain ⟨p2, n2⟩ := dok_plain oe
  have hm : min d.depth e.depth ≤ 50 := Nat.le_trans (Nat.min_le_left _ _) n1
  cases neg with
  | false => exact SeqAt.eq_plain r1 r2 p1 p2 (by omega) ⟨.bl _, H, I, rfl, q⟩
  | true => exact SeqAt.ne_plain r1 r2 p1 p2 (by omega) ⟨.bl _, H, I, rfl, q⟩
theorem depth_items {ds : List PyData} : PyData.depthAll ds ≤ (PyData.list ds).depth := by
  simp only [PyData.depth]; omega
theorem depth_itemsT {ds : List PyData} : PyData.depthAll ds ≤ (PyData.tuple ds).depth := by
  simp only [PyData.depth]; omega
theorem op_inP (hu : X.A.units + 64 < cLine) {neg : Bool} : OpR X (compareOp (if neg then .NotIn else .In)) (fun x y H Q => ∃ d ds, Dp X.K H x d ∧ (Dp X.K H y (.list ds) ∧ dok (.list ds) = true ∨ Dp X.K H y (.tuple ds) ∧ dok (.tuple ds) = true) ∧ dok d = true ∧
    Q (.bl (if neg then !ds.any (fun z => PyData.eqv z d) else ds.any (fun z => PyData.eqv z d))) H) := by
  intro pins s σ H x y v u Q I rx ry ⟨d, ds, hd, he, od, q⟩
  obtain ⟨as, r1⟩ := Dp.reads I d x v hd rx
  obtain ⟨p1, n1⟩ := dok_plain od
  rcases he with ⟨he, oe⟩ | ⟨he, oe⟩
  · obtain ⟨bs, r2⟩ := Dp.reads I (.list ds) y u he ry
    obtain ⟨p2, n2⟩ := dok_plain oe
    have hm : min (PyData.depthAll ds) d.depth ≤ 50 := Nat.le_trans (Nat.min_le_right _ _) n1
    have p3 : PyData.plainAll ds = true := by simpa [PyData.plain] using p2
    cases neg with
    | false => exact SeqAt.in_list_data r2 r1 p3 p1 (by omega) ⟨.bl _, H, I, rfl, q⟩
    | true => exact SeqAt.notIn_list_data r2 r1 p3 p1 (by omega) ⟨.bl _, H, I, rfl, q⟩
  · obtain ⟨bs, r2⟩ := Dp.reads I (.tuple ds) y u he ry
    obtain ⟨p2, n2⟩ := dok_plain oe
    have hm : min (PyData.depthAll ds) d.depth ≤ 50 := Nat.le_trans (Nat.min_le_right _ _) n1
    have p3 : PyData.plainAll ds = true := by simpa [PyData.plain] using p2
    cases neg with
    | false => exact SeqAt.in_tuple_data r2 r1 p3 p1 (by omega) ⟨.bl _, H, I, rfl, q⟩
    | true => exact SeqAt.notIn_tuple_data r2 r1 p3 p1 (by omega) ⟨.bl _, H, I, rfl, q⟩
theorem op_cmp (hu : X.A.units + 64 < cLine) (o : COp) : OpR X (compareOp (copOf o)) (rCmp X.K o) := by
  intro pins s σ H x y v u Q I rx ry ⟨P, d, e, k, hd, he, ev, q⟩
  have hin : ∀ neg : Bool, (copOf o = if neg then .NotIn else .In) → (∃ ds, (e = .list ds ∨ e = .tuple ds) ∧ dok d = true ∧ dok e = true ∧ k = if neg then !ds.any (fun z => PyData.eqv z d) else ds.any (fun z => PyData.eqv z d)) → wpAny (model X.prog X.w) X.A (compareOp (copOf o) v u) (EP X pins σ Q) X.xe s := by
    intro neg eo ⟨ds, eds, od, oe, ek⟩
    rw [eo]
    refine op_inP hu (neg := neg) pins s σ H x y v u Q I rx ry ⟨d, ds, hd.dp, ?_, od, by subst ek; exact q⟩
    rcases eds with e1 | e1
    · subst e1; exact .inl ⟨he.dp, oe⟩
    · subst e1; exact .inr ⟨he.dp, oe⟩
  have heq : ∀ neg : Bool, (copOf o = if neg then .NotEq else .Eq) → dok d = true → dok e = true → (k = if neg then !PyData.eqv d e else PyData.eqv d e) → wpAny (model X.prog X.w) X.A (compareOp (copOf o) v u) (EP X pins σ Q) X.xe s := by
    intro neg eo od oe ek
    rw [eo]
    exact op_eqP hu (neg := neg) pins s σ H x y v u Q I rx ry ⟨d, e, hd.dp, he.dp, od, oe, by subst ek; exact q⟩
  unfold evCmp at ev
  split at ev
  · cases ev; have h1 := hd.int; have h2 := he.int; subst x y
    refine L2.op_eq pins s σ H _ _ v u Q I rx ry ⟨rfl, ?_⟩
    rename_i i j
    rw [show decide (V.int i = V.int j) = decide (i = j) from by simp]
    exact q
  · cases ev; have h1 := hd.int; have h2 := he.int; subst x y
    refine L2.op_ne pins s σ H _ _ v u Q I rx ry ⟨rfl, ?_⟩
    rename_i i j
    rw [show decide (V.int i = V.int j) = decide (i = j) from by simp]
    exact q
  · cases ev; have h1 := hd.int; have h2 := he.int; subst x y
    exact op_lt pins s σ H _ _ v u Q I rx ry ⟨_, _, rfl, rfl, q⟩
  · cases ev; have h1 := hd.int; have h2 := he.int; subst x y
    exact op_le pins s σ H _ _ v u Q I rx ry ⟨_, _, rfl, rfl, q⟩
  · cases ev; have h1 := hd.int; have h2 := he.int; subst x y
    exact op_gt pins s σ H _ _ v u Q I rx ry ⟨_, _, rfl, rfl, q⟩
  · cases ev; have h1 := hd.int; have h2 := he.int; subst x y
    exact op_ge pins s σ H _ _ v u Q I rx ry ⟨_, _, rfl, rfl, q⟩
  · cases ev
    exact op_isN pins s σ H _ _ v u Q I rx ry ⟨he.none, by rw [hd.notnone]; exact q⟩
  · cases ev
    exact op_notN pins s σ H _ _ v u Q I rx ry ⟨he.none, by rw [hd.notnone]; exact q⟩
  · split at ev
    · rename_i hc; cases ev; rw [Bool.and_eq_true] at hc; exact heq false rfl hc.1 hc.2 rfl
    · cases ev
  · split at ev
    · rename_i hc; cases ev; rw [Bool.and_eq_true] at hc; exact heq true rfl hc.1 hc.2 rfl
    · cases ev
  · split at ev
    · rename_i hc; cases ev; rw [Bool.and_eq_true] at hc; exact hin false rfl ⟨_, .inl rfl, hc.1, hc.2, rfl⟩
    · cases ev
  · split at ev
    · rename_i hc; cases ev; rw [Bool.and_eq_true] at hc; exact hin true rfl ⟨_, .inl rfl, hc.1, hc.2, rfl⟩
    · cases ev
  · split at ev
    · rename_i hc; cases ev; rw [Bool.and_eq_true] at hc; exact hin false rfl ⟨_, .inr rfl, hc.1, hc.2, rfl⟩
    · cases ev
  · split at ev
    · rename_i hc; cases ev; rw [Bool.and_eq_true] at hc; exact hin true rfl ⟨_, .inr rfl, hc.1, hc.2, rfl⟩
    · cases ev
  · cases ev

/-! ### subscripts -/
theorem atI_rp {K : PySem.W.Frag} {H : Hp} {P : Addr → Prop} {xs : List V} {ds : List PyData} {i : Int} {d : PyData} (h : RpA K H P xs ds) (e : atI ds i = some d) : ∃ v, atI xs i = some v ∧ Rp K H P v d := by
  unfold atI at e ⊢
  rw [h.length]
  cases q : ixN ds.length i with
  | none => rw [q] at e; cases e
  | some j =>
    rw [q] at e
    exact h.get e
def rIxP (K : PySem.W.Frag) : R2 := fun x y H Q => ∃ (P : Addr → Prop) (d e : PyData) (r : R), RpB K H P x d ∧ RpB K H P y e ∧ evIx d e = some r ∧ Gives K H P r Q
theorem ix_P : IxR X (rIxP X.K) := by
  intro value slice pins s σ H x y v u Q I rx ry ⟨P, d, e, r, hd, he, ev, q⟩ hs
  unfold evIx at ev
  split at ev
  · obtain ⟨a, xs, rfl, h1, ha⟩ := hd.list
    have := he.int
    subst y
    rename_i ds i
    cases e1 : atI ds i with
    | none => rw [e1] at ev; cases ev
    | some d =>
      rw [e1] at ev
      cases ev
      obtain ⟨w, e2, hw⟩ := atI_rp ha e1
      exact ix_list value slice pins s σ H _ _ v u Q I rx ry ⟨a, xs, i, w, rfl, rfl, .inl h1, e2, q.sh hw⟩ hs
  · obtain ⟨a, xs, rfl, h1, ha⟩ := hd.tuple
    have := he.int
    subst y
    rename_i ds i
    cases e1 : atI ds i with
    | none => rw [e1] at ev; cases ev
    | some d =>
      rw [e1] at ev
      cases ev
      obtain ⟨w, e2, hw⟩ := atI_rp ha e1
      exact ix_tup value slice pins s σ H _ _ v u Q I rx ry ⟨a, xs, i, w, rfl, rfl, h1, e2, q.sh hw⟩ hs
  · cases ev
def rSlP (K : PySem.W.Frag) : V → Option Int → Option Int → Hp → VK → Prop := fun x lo hi H Q => ∃ (P : Addr → Prop) (d : PyData) (r : R), (∀ a, P a → H a ≠ none) ∧ RpB K H P x d ∧ evSl d lo hi = some r ∧ Gives K H P r Q
theorem sl_P : SlR X (rSlP X.K) := by
  intro pins s σ H x v vl vu lo hi sl Q I rx h1 h2 h3 ⟨P, d, r, hP, hd, ev, q⟩
  unfold evSl at ev
  split at ev
  · cases ev
    obtain ⟨a, xs, rfl, h1', ha⟩ := hd.list
    refine sl_list pins s σ H _ v vl vu lo hi sl Q I rx h1 h2 h3 ⟨a, xs, rfl, .inl h1', fun p hp => ?_⟩
    refine q.new hP ?_ p hp
    unfold cutV cutD
    rw [ha.length]
    exact (ha.drop _).take _
  · cases ev

end
end PV

set_option Elab.async false
set_option linter.all false
set_option maxRecDepth 100000
set_option maxHeartbeats 4000000
/-! PV4: calls of built-ins over plain values. -/
namespace PV
open PySem PySem.Spec PyProof.Rows L2

theorem Gives.newT {K : PySem.W.Frag} {H : Hp} {P : Addr → Prop} {ds : List PyData} {xs : List V} {Q : VK} (hP : ∀ a, P a → H a ≠ none) (h : Gives K H P (false, .tuple ds) Q) (r : RpA K H P xs ds) (p : Addr) (hp : H p = none) : Q (.ref p) (upd H p (.tup xs)) :=
  h _ _ (same_upd hp) (.tup (.inl ⟨.inl upd_same, fun z => hP p z hp⟩) (r.same (same_upd hp)))
abbrev RpBs (K : PySem.W.Frag) (H : Hp) (P : Addr → Prop) : List V → List PyData → Prop := Paired (RpB K H P)
def rBI (K : PySem.W.Frag) (b : BI) : List V → Hp → VK → Prop := fun vs H Q => ∃ (P : Addr → Prop) (ds : List PyData) (r : R), (∀ a, P a → H a ≠ none) ∧ RpBs K H P vs ds ∧ evBI b ds = some r ∧ Gives K H P r Q
section
variable {K : PySem.W.Frag} {H : Hp} {P : Addr → Prop}
theorem one {vs : List V} {d : PyData} (h : RpBs K H P vs [d]) : ∃ v, vs = [v] ∧ RpB K H P v d := by
  cases h with
  | cons r t => cases t; exact ⟨_, rfl, r⟩
theorem two {vs : List V} {d e : PyData} (h : RpBs K H P vs [d, e]) : ∃ v u, vs = [v, u] ∧ RpB K H P v d ∧ RpB K H P u e := by
  cases h with
  | cons r t =>
    cases t with
    | cons r2 t => cases t; exact ⟨_, _, rfl, r, r2⟩
theorem minI_mem : ∀ (xs : List Int) (m : Int), (minI m xs = m ∨ minI m xs ∈ xs) ∧ minI m xs ≤ m ∧ ∀ y ∈ xs, minI m xs ≤ y
  | [], m => ⟨.inl rfl, Int.le_refl _, fun y h => absurd h (by simp)⟩
  | x :: xs, m => by
    obtain ⟨h1, h2, h3⟩ := minI_mem xs (if x < m then x else m)
    show (minI (if x < m then x else m) xs = m ∨ minI (if x < m then x else m) xs ∈ x :: xs) ∧ minI (if x < m then x else m) xs ≤ m ∧ ∀ y ∈ x :: xs, minI (if x < m then x else m) xs ≤ y
    generalize minI (if x < m then x else m) xs = k at h1 h2 h3
    refine ⟨?_, ?_, fun y hy => ?_⟩
    · rcases h1 with h1 | h1
      · by_cases q : x < m
        · rw [if_pos q] at h1; exact .inr (by rw [h1]; exact List.mem_cons_self)
        · rw [if_neg q] at h1; exact .inl h1
      · exact .inr (List.mem_cons_of_mem _ h1)
    · split at h2 <;> omega
    · rcases List.mem_cons.mp hy with rfl | hy
      · split at h2 <;> omega
      · exact h3 y hy
theorem maxI_mem : ∀ (xs : List Int) (m : Int), (maxI m xs = m ∨ maxI m xs ∈ xs) ∧ m ≤ maxI m xs ∧ ∀ y ∈ xs, y ≤ maxI m xs
  | [], m => ⟨.inl rfl, Int.le_refl _, fun y h => absurd h (by simp)⟩
  | x :: xs, m => by
    obtain ⟨h1, h2, h3⟩ := maxI_mem xs (if m < x then x else m)
    show (maxI (if m < x then x else m) xs = m ∨ maxI (if m < x then x else m) xs ∈ x :: xs) ∧ m ≤ maxI (if m < x then x else m) xs ∧ ∀ y ∈ x :: xs, y ≤ maxI (if m < x then x else m) xs
    generalize maxI (if m < x then x else m) xs = k at h1 h2 h3
    refine ⟨?_, ?_, fun y hy => ?_⟩
    · rcases h1 with h1 | h1
      · by_cases q : m < x
        · rw [if_pos q] at h1; exact .inr (by rw [h1]; exact List.mem_cons_self)
        · rw [if_neg q] at h1; exact .inl h1
      · exact .inr (List.mem_cons_of_mem _ h1)
    · split at h2 <;> omega
    · rcases List.mem_cons.mp hy with rfl | hy
      · split at h2 <;> omega
      · exact h3 y hy
theorem insI_perm (x : Int) : ∀ l, (insI x l).Perm (x :: l)
  | [] => .refl _
  | y :: ys => by
    unfold insI
    split
    · exact .refl _
    · exact (List.Perm.cons y (insI_perm x ys)).trans (.swap x y ys)
theorem sortI_perm : ∀ l, (sortI l).Perm l
  | [] => .refl _
  | x :: xs => (insI_perm x _).trans ((sortI_perm xs).cons x)
theorem insI_pw (x : Int) : ∀ l : List Int, l.Pairwise (· ≤ ·) → (insI x l).Pairwise (· ≤ ·)
  | [], _ => by simp [insI]
  | y :: ys, h => by
    rw [List.pairwise_cons] at h
    unfold insI
    split
    · rename_i hxy
      rw [List.pairwise_cons]
      refine ⟨fun z hz => ?_, List.pairwise_cons.mpr h⟩
      rcases List.mem_cons.mp hz with rfl | hz
      · exact hxy
      · exact Int.le_trans hxy (h.1 z hz)
    · rename_i hxy
      rw [List.pairwise_cons]
      refine ⟨fun z hz => ?_, insI_pw x ys h.2⟩
      rcases List.mem_cons.mp ((insI_perm x ys).mem_iff.mp hz) with rfl | hz
      · omega
      · exact h.1 z hz
theorem sortI_pw : ∀ l : List Int, (sortI l).Pairwise (· ≤ ·)
  | [] => .nil
  | x :: xs => insI_pw x _ (sortI_pw xs)
theorem rpA_list_ints {ds : List PyData} {ns : List Int} {xs : List V} (e : intsOf ds = some ns) (h : RpA K H P xs ds) : xs = ns.map V.int := by
  rw [intsOf_eq e] at h
  exact rpA_int_inv h
end
section
variable {X : Cx}
theorem call_lenP : CallR X (.builtin "len") (rBI X.K .len) := by
  intro pins s σ H xs us Q I r ⟨P, ds, rr, hP, hd, ev, q⟩
  unfold evBI at ev
  split at ev <;> first | (rename_i z1; cases z1) | skip
  · cases ev
    obtain ⟨v, rfl, h⟩ := one hd
    obtain ⟨a, ys, rfl, h1, ha⟩ := h.list
    exact call_len_seq pins s σ H _ us Q I r ⟨a, ys, rfl, .inl (.inl h1), by rw [ha.length]; exact q.sh (.int _)⟩
  · cases ev
    obtain ⟨v, rfl, h⟩ := one hd
    obtain ⟨a, ys, rfl, h1, ha⟩ := h.tuple
    exact call_len_seq pins s σ H _ us Q I r ⟨a, ys, rfl, .inr h1, by rw [ha.length]; exact q.sh (.int _)⟩
  · cases ev
theorem call_absP : CallR X (.builtin "abs") (rBI X.K .abs) := by
  intro pins s σ H xs us Q I r ⟨P, ds, rr, hP, hd, ev, q⟩
  unfold evBI at ev
  split at ev <;> first | (rename_i z1; cases z1) | skip
  · cases ev
    obtain ⟨v, rfl, h⟩ := one hd
    have := h.int
    subst this
    exact call_abs pins s σ H _ us Q I r ⟨_, rfl, q.sh (.int _)⟩
  · cases ev
theorem call_intP : CallR X (.type "int") (rBI X.K .int) := by
  intro pins s σ H xs us Q I r ⟨P, ds, rr, hP, hd, ev, q⟩
  unfold evBI at ev
  split at ev <;> first | (rename_i z1; cases z1) | skip
  · cases ev
    obtain ⟨v, rfl, h⟩ := one hd
    have := h.int
    subst this
    exact call_int1 pins s σ H _ us Q I r (.inl ⟨_, rfl, q.sh (.int _)⟩)
  · cases ev
    obtain ⟨v, rfl, h⟩ := one hd
    have := h.bool
    subst this
    exact call_int1 pins s σ H _ us Q I r (.inr ⟨_, rfl, q.sh (.int _)⟩)
  · cases ev
theorem call_minP (hc : X.calm = true) : CallR X (.builtin "min") (rBI X.K .min) := by
  intro pins s σ H xs us Q I r ⟨P, ds, rr, hP, hd, ev, q⟩
  unfold evBI at ev
  split at ev <;> first | (rename_i z1; cases z1) | skip
  · cases ev
    obtain ⟨v, u, rfl, h, h'⟩ := two hd
    have := h.int
    subst this
    have := h'.int
    subst this
    exact call_min2 hc pins s σ H _ us Q I r ⟨_, _, rfl, q.sh (.int _)⟩
  · obtain ⟨v, rfl, h⟩ := one hd
    obtain ⟨a, ys, rfl, h1, ha⟩ := h.list
    rename_i ds'
    cases e : intsOf ds' with
    | none => rw [e] at ev; cases ev
    | some l =>
      rw [e] at ev
      cases l with
      | nil => cases ev
      | cons x l =>
        cases ev
        have := rpA_list_ints e ha
        subst this
        obtain ⟨m1, m2, m3⟩ := minI_mem l x
        refine cr_min hc pins s σ H _ us Q I r ⟨a, x :: l, rfl, .inl h1, by simp, fun m hm hle => ?_⟩
        have : m = minI x l := by
          have h1 : m ≤ minI x l := hle _ (by rcases m1 with z | z <;> simp [z])
          have h2 : minI x l ≤ m := by rcases List.mem_cons.mp hm with rfl | z; exact m2; exact m3 m z
          omega
        rw [this]
        exact q.sh (.int _)
  · cases ev
theorem call_maxP (hc : X.calm = true) : CallR X (.builtin "max") (rBI X.K .max) := by
  intro pins s σ H xs us Q I r ⟨P, ds, rr, hP, hd, ev, q⟩
  unfold evBI at ev
  split at ev <;> first | (rename_i z1; cases z1) | skip
  · cases ev
    obtain ⟨v, u, rfl, h, h'⟩ := two hd
    have := h.int
    subst this
    have := h'.int
    subst this
    exact call_max2 hc pins s σ H _ us Q I r ⟨_, _, rfl, q.sh (.int _)⟩
  · obtain ⟨v, rfl, h⟩ := one hd
    obtain ⟨a, ys, rfl, h1, ha⟩ := h.list
    rename_i ds'
    cases e : intsOf ds' with
    | none => rw [e] at ev; cases ev
    | some l =>
      rw [e] at ev
      cases l with
      | nil => cases ev
      | cons x l =>
        cases ev
        have := rpA_list_ints e ha
        subst this
        obtain ⟨m1, m2, m3⟩ := maxI_mem l x
        refine cr_max hc pins s σ H _ us Q I r ⟨a, x :: l, rfl, .inl h1, by simp, fun m hm hle => ?_⟩
        have : m = maxI x l := by
          have h1 : maxI x l ≤ m := hle _ (by rcases m1 with z | z <;> simp [z])
          have h2 : m ≤ maxI x l := by rcases List.mem_cons.mp hm with rfl | z; exact m2; exact m3 m z
          omega
        rw [this]
        exact q.sh (.int _)
  · cases ev
theorem call_sumP (hc : X.calm = true) : CallR X (.builtin "sum") (rBI X.K .sum) := by
  intro pins s σ H xs us Q I r ⟨P, ds, rr, hP, hd, ev, q⟩
  unfold evBI at ev
  split at ev <;> first | (rename_i z1; cases z1) | skip
  · obtain ⟨v, rfl, h⟩ := one hd
    obtain ⟨a, ys, rfl, h1, ha⟩ := h.list
    rename_i ds'
    cases e : intsOf ds' with
    | none => rw [e] at ev; cases ev
    | some l =>
      rw [e] at ev
      cases ev
      have := rpA_list_ints e ha
      subst this
      exact cr_sum hc pins s σ H _ us Q I r ⟨a, l, rfl, .inl h1, q.sh (.int _)⟩
  · cases ev
theorem call_listP : CallR X (.type "list") (rBI X.K .list) := by
  intro pins s σ H xs us Q I r ⟨P, ds, rr, hP, hd, ev, q⟩
  unfold evBI at ev
  split at ev <;> first | (rename_i z1; cases z1) | skip
  · cases ev
    obtain ⟨v, rfl, h⟩ := one hd
    obtain ⟨a, ys, rfl, h1, ha⟩ := h.list
    exact call_list_of pins s σ H _ us Q I r ⟨a, ys, rfl, .inl (.inl h1), fun p hp => q.new hP ha p hp⟩
  · cases ev
    obtain ⟨v, rfl, h⟩ := one hd
    obtain ⟨a, ys, rfl, h1, ha⟩ := h.tuple
    exact call_list_of pins s σ H _ us Q I r ⟨a, ys, rfl, .inr h1, fun p hp => q.new hP ha p hp⟩
  · cases ev
theorem call_tupleP : CallR X (.type "tuple") (rBI X.K .tuple) := by
  intro pins s σ H xs us Q I r ⟨P, ds, rr, hP, hd, ev, q⟩
  unfold evBI at ev
  split at ev <;> first | (rename_i z1; cases z1) | skip
  · cases ev
    obtain ⟨v, rfl, h⟩ := one hd
    obtain ⟨a, ys, rfl, h1, ha⟩ := h.list
    exact call_tuple_of pins s σ H _ us Q I r ⟨a, ys, rfl, .inl ⟨.inl h1, fun p hp => q.newT hP ha p hp⟩⟩
  · cases ev
    obtain ⟨v, rfl, h⟩ := one hd
    rcases h with h | ⟨a, xs, ds, e1, e2, e3, h⟩
    · obtain ⟨a, ys, rfl, h1, ha⟩ := (RpB.tuple (.inl h))
      exact call_tuple_of pins s σ H _ us Q I r ⟨a, ys, rfl, .inr ⟨h1, q.sh h⟩⟩
    · cases e2
  · cases ev
/-- isinstance(x, T) -/
def rIs (K : PySem.W.Frag) (T : String) (f : PyData → Bool) : List V → Hp → VK → Prop := fun vs H Q => ∃ (P : Addr → Prop) (x : V) (d : PyData), vs = [x, .ty T] ∧ RpB K H P x d ∧ Q (.bl (f d)) H
theorem call_isIntP : CallR X (.builtin "isinstance") (rIs X.K "int" PyData.isInt) := by
  intro pins s σ H xs us Q I r ⟨P, x, d, e, hd, q⟩
  subst e
  obtain ⟨u1, u2, rfl, r1, r2⟩ := vals2 r
  cases r2
  obtain ⟨as, rd⟩ := Dp.reads I d x u1 hd.dp r1
  exact PySem.W.isinstance_int_data rd fun tk _ => ⟨.bl _, H, I.tok tk, rfl, q⟩
theorem call_isBoolP : CallR X (.builtin "isinstance") (rIs X.K "bool" PyData.isBool) := by
  intro pins s σ H xs us Q I r ⟨P, x, d, e, hd, q⟩
  subst e
  obtain ⟨u1, u2, rfl, r1, r2⟩ := vals2 r
  cases r2
  obtain ⟨as, rd⟩ := Dp.reads I d x u1 hd.dp r1
  exact PySem.W.isinstance_bool_data rd fun tk _ => ⟨.bl _, H, I.tok tk, rfl, q⟩
theorem call_isListP : CallR X (.builtin "isinstance") (rIs X.K "list" PyData.isList) := by
  intro pins s σ H xs us Q I r ⟨P, x, d, e, hd, q⟩
  subst e
  obtain ⟨u1, u2, rfl, r1, r2⟩ := vals2 r
  cases r2
  obtain ⟨as, rd⟩ := Dp.reads I d x u1 hd.dp r1
  exact PySem.W.isinstance_list_data rd fun tk _ => ⟨.bl _, H, I.tok tk, rfl, q⟩
theorem call_isTupleP : CallR X (.builtin "isinstance") (rIs X.K "tuple" PyData.isTuple) := by
  intro pins s σ H xs us Q I r ⟨P, x, d, e, hd, q⟩
  subst e
  obtain ⟨u1, u2, rfl, r1, r2⟩ := vals2 r
  cases r2
  obtain ⟨as, rd⟩ := Dp.reads I d x u1 hd.dp r1
  exact PySem.W.isinstance_tuple_data rd fun tk _ => ⟨.bl _, H, I.tok tk, rfl, q⟩
theorem call_isStrP : CallR X (.builtin "isinstance") (rIs X.K "str" PyData.isStr) := by
  intro pins s σ H xs us Q I r ⟨P, x, d, e, hd, q⟩
  subst e
  obtain ⟨u1, u2, rfl, r1, r2⟩ := vals2 r
  cases r2
  obtain ⟨as, rd⟩ := Dp.reads I d x u1 hd.dp r1
  exact PySem.W.isinstance_str_data rd fun tk _ => ⟨.bl _, H, I.tok tk, rfl, q⟩
/-- sorted: ints, or data of one kind -/
theorem each_of {H : Hp} {P : Addr → Prop} : ∀ {xs : List V} {us : List Value} {ds : List PyData}, Vals xs us → RpA X.K H P xs ds → PySem.W.EachIs (fun (u : Value) (d : PyData) => ∃ x, RelV x u ∧ Rp X.K H P x d) us ds
  | _, _, _, .nil, .nil => .nil
  | _, _, _, .cons r t, .cons h t' => .cons ⟨_, r, h⟩ (each_of t t')
theorem each_back {H : Hp} {P : Addr → Prop} : ∀ {us : List Value} {ds : List PyData}, PySem.W.EachIs (fun (u : Value) (d : PyData) => ∃ x, RelV x u ∧ Rp X.K H P x d) us ds → ∃ xs, Vals xs us ∧ RpA X.K H P xs ds
  | _, _, .nil => ⟨[], .nil, .nil⟩
  | _, _, .cons ⟨x, r, h⟩ t => let ⟨xs, r', h'⟩ := each_back t; ⟨x :: xs, .cons r r', .cons h h'⟩
theorem sdok_of {ds : List PyData} (h : sdok ds = true) : PySem.W.AllAlike (ds.map fun d => d) ∧ PySem.W.Sortable (ds.map fun d => d) ∧ PyData.depthAll ds ≤ 50 := by
  unfold sdok at h
  rw [Bool.and_eq_true, Bool.and_eq_true] at h
  obtain ⟨⟨h1, h2⟩, h3⟩ := h
  have e : (ds.map fun d => d) = ds := List.map_id' ds
  rw [e]
  refine ⟨fun d hd d' hd' => ?_, ?_, Nat.le_of_ble_eq_true h3⟩
  · exact List.all_eq_true.mp (List.all_eq_true.mp h1 d hd) d' hd'
  · rw [Bool.or_eq_true] at h2
    rcases h2 with h2 | h2
    · refine .inl fun d hd => ?_
      have := List.all_eq_true.mp h2 d hd
      unfold tupOk at this
      split at this
      · exact ⟨_, _, rfl⟩
      · cases this
    · refine .inr fun d hd => ?_
      have := List.all_eq_true.mp h2 d hd
      constructor
      · intro z; subst z; cases this
      · intro xs z; subst z; cases this
theorem depth_le_all : ∀ {ds : List PyData} {d : PyData}, d ∈ ds → d.depth ≤ PyData.depthAll ds
  | x :: xs, d, h => by
    rw [PyData.depthAll]
    rcases List.mem_cons.mp h with rfl | h
    · exact Nat.le_max_left _ _
    · exact Nat.le_trans (depth_le_all h) (Nat.le_max_right _ _)
theorem call_sortedP (hu : X.A.units + 64 < cLine) : CallR X (.builtin "sorted") (rBI X.K .sorted) := by
  intro pins s σ H xs us Q I r ⟨P, ds, rr, hP, hd, ev, q⟩
  unfold evBI at ev
  split at ev <;> first | (rename_i z1; cases z1) | skip
  · obtain ⟨v, rfl, h⟩ := one hd
    obtain ⟨a, ys, rfl, h1, ha⟩ := h.list
    rename_i ds'
    split at ev
    · rename_i l e
      cases ev
      have := rpA_list_ints e ha
      subst this
      refine cr_sortedI pins s σ H _ us Q I r ⟨a, l, rfl, .inl h1, fun ns' p hp hs hn => ?_⟩
      have e1 : ns' = sortI l := PySem.W.ksm_same (hp.trans (sortI_perm l).symm) hs (sortI_pw l)
      rw [e1]
      exact q.new hP rpA_ints p hn
    · split at ev
      · rename_i hs
        cases ev
        obtain ⟨k1, k2, k3⟩ := sdok_of hs
        obtain ⟨its, rv, hl, hz⟩ := I.list (.inl h1)
        rw [Vals.ref1 r]
        have e1 := each_of (X := X) rv ha
        have e2 : PySem.W.EachIs (fun (u : Value) (d : PyData) => ∃ as, Reads s.heap u d as) its ds' := e1.mono fun u d ⟨x, rx, hx⟩ => Dp.reads I d x u (Rp.dp d x hx) rx
        refine PySem.W.sorted_data (enc := fun d => d) hl.isList e1 e2 k1 k2 (by rw [← ha.length]; exact hz) (fun b hb => ?_) fun out hlen he => ?_
        · have := depth_le_all hb
          omega
        · obtain ⟨zs, hz1, hz2⟩ := each_back he
          obtain ⟨ep, he'⟩ := PyProof.Rows.sortedAll_at s.heap its out.toArray
          have hn : H (s.heap.objs.size + 1) = none := I.hok.fresh (Nat.le_succ _)
          have hlen' : zs.length ≤ sizeLine := by rw [hz1.length, hlen, ← ha.length]; exact hz
          exact ⟨.ref _, upd H (s.heap.objs.size + 1) (.lst zs), I.laid (t' := s.toks) (fun _ _ => PyProof.Rows.sortedAll_old) (Nat.le_succ _) ⟨hlen', out, ep, hz1, he'⟩, rfl, q.new hP hz2 _ hn⟩
      · cases ev
  · cases ev
/-- xs.index(x) -/
theorem idxD_some {x : PyData} : ∀ {ds : List PyData} {n k : Nat}, idxD x ds n = some k → ∃ j, k = n + j ∧ ∃ z, ds[j]? = some z ∧ PyData.eqv z x = true ∧ ∀ (m : Nat) z', m < j → ds[m]? = some z' → PyData.eqv z' x = false
  | [], n, k, h => by cases h
  | y :: ys, n, k, h => by
    unfold idxD at h
    split at h
    · rename_i hc
      cases h
      exact ⟨0, rfl, y, rfl, hc, fun m z' hm => absurd hm (by omega)⟩
    · rename_i hc
      obtain ⟨j, e, z, h1, h2, h3⟩ := idxD_some h
      refine ⟨j + 1, by omega, z, by simpa using h1, h2, fun m z' hm hz' => ?_⟩
      cases m with
      | zero => simp at hz'; subst hz'; simpa using hc
      | succ m => exact h3 m z' (by omega) (by simpa using hz')
theorem mt_indexP (hu : X.A.units + 65 < cLine) : MtR X "list.index" (fun x xs H Q => rBI X.K .index (x :: xs) H Q) := by
  intro pins s σ H x xs v us Q I rx rxs ⟨P, ds, rr, hP, hd, ev, q⟩
  unfold evBI at ev
  split at ev <;> first | (rename_i z1; cases z1) | skip
  · rename_i es d
    split at ev
    · rename_i hc
      rw [Bool.and_eq_true] at hc
      obtain ⟨o1, o2⟩ := hc
      obtain ⟨p1, n1⟩ := dok_plain o1
      obtain ⟨p2, n2⟩ := dok_plain o2
      have p3 : PyData.plainAll es = true := by simpa [PyData.plain] using p2
      cases e : idxD d es 0 with
      | none => rw [e] at ev; cases ev
      | some k =>
        rw [e] at ev
        cases ev
        obtain ⟨j, ej, z, hz, hzj, hno⟩ := idxD_some e
        obtain rfl : k = j := by omega
        cases hd with
        | cons hd1 hd2 =>
          obtain ⟨y, rfl, hy⟩ := one hd2
          obtain ⟨a, ys, rfl, h1, ha⟩ := hd1.list
          cases rx
          obtain ⟨uy, rfl, ry⟩ := rxs.one
          obtain ⟨bs, r1⟩ := Dp.reads I d y uy hy.dp ry
          obtain ⟨its, rv, ⟨⟨cls, dd, data, sls⟩, n, ho, hc, hdn, hdt⟩, hlen⟩ := I.list (.inl h1)
          simp only at hc hdt
          subst hc hdt
          obtain ⟨as, h4⟩ := Dp.readsAll I es _ its (RpA.dp es _ ha) rv
          have hn : its.length = es.length := SeqAt.ReadsAll.length es its as h4
          have hmap : its.map (SeqAt.readOf s.heap) = es := SeqAt.readsAll_map_plain es its as p3 h4
          have hvl := rv.length
          have hsl := sizeLine_eq
          obtain ⟨hjd, _⟩ := List.getElem?_eq_some_iff.mp hz
          have hjl : k < its.length := by omega
          have hj : k < its.toArray.size := by simpa using hjl
          have at_ : ∀ (m : Nat) (hm : m < its.toArray.size) (z' : PyData), es[m]? = some z' → SeqAt.readOf s.heap its.toArray[m] = z' := by
            intro m hm z' hz'
            have hml : m < its.length := by simpa using hm
            rw [← hmap, List.getElem?_map, List.getElem?_eq_getElem hml] at hz'
            have e1 : SeqAt.readOf s.heap its[m] = z' := Option.some.inj (show some (SeqAt.readOf s.heap its[m]) = some z' from hz')
            simpa using e1
          have hm : min (PyData.depthAll es) d.depth ≤ 50 := Nat.le_trans (Nat.min_le_right _ _) n1
          refine call_meets PySem.F.slot_list_index ⟨_, ho, rfl⟩ PySem.F.entry_list_index (PySem.F.args_list_index_2 _ _)
            (SeqAt.list_indexAt a its.toArray n dd sls uy (fun u => PyData.eqv (SeqAt.readOf s.heap u) d) k hj (by omega) ?_ ?_) ⟨ho, SeqAt.items_plain (vs := its.toArray) (show ReadsAll s.heap its.toArray.toList es as from h4) r1 p3 p1 (by omega), ?_⟩
          · show PyData.eqv (SeqAt.readOf s.heap its.toArray[k]) d = true
            rw [at_ k hj z hz]
            exact hzj
          · intro m hm hmj
            have hmd : m < es.length := by omega
            have hz' : es[m]? = some es[m] := List.getElem?_eq_getElem hmd
            show PyData.eqv (SeqAt.readOf s.heap its.toArray[m]) d = false
            rw [at_ m hm _ hz']
            exact hno m _ hmj hz'
          · exact ⟨.int (k : Nat), H, I.tok _, ⟨_, rfl⟩, q.sh (.int _)⟩
    · cases ev
  · cases ev
end
end PV

set_option Elab.async false
set_option linter.all false
set_option maxRecDepth 100000
set_option maxHeartbeats 4000000
/-! PV4s: set of a list of ints; sorted(set(..)). -/
namespace PV
open PySem PySem.Spec PyProof.Rows L2

section
variable {P : Program} {w : World} {A : Around} {E : Value → Shared → Prop} {s : Shared}
theorem call_set_lstP {l : Addr} {arr : Array Value} (ns : List Int) {Q : Value → Shared → Prop} (hh : A.handled = none) (hl : s.heap.IsList l arr) (hia : IntsAre arr.toList ns) (hb : ns.length + 1 < scanBound)
    (h : ∀ (hq : Heap) (tk c : Nat), SetR w hq s.heap.objs.size (fun j => decide (j ∈ ns)) c → c ≤ ns.length → (∀ b o, s.heap.get? b = some o → hq.get? b = some o) → Q (.ref s.heap.objs.size) { s with heap := hq, toks := tk }) :
    wpAny (model P w) A (call (.type "set") [.ref l]) Q E s := by
  have hasz : arr.size = ns.length := by
    have q := IntsAre.length hia
    rw [Array.length_toList] at q
    exact q
  obtain ⟨c, tl0, kmro⟩ := F.called_set.mro
  have kmade := F.called_set.made
  have ksub := F.called_set.sub
  refine wpAny_call (codeAny_of_tree ?_)
  show wpAny _ _ (callAny (.type "set") _) _ _ _
  refine wpAny_pure ⟨Code.quiet_builtin _ (by decide +kernel), codeAny_builtin F.entry_type_call ?_⟩
  rw [Around.under_plain (weight_type_call_type "set" [.ref l] []) rfl]
  have f1 := F.called_set.notType
  have f2 := F.called_set.canCreate
  have fct := F.typeCall_set_1 (.ref l)
  repeat (any_goals (first | assumption | wp_step))

  refine codeAny_mono (code_set_led1 (.ref l) (E := E) (Q₁ := fun ob s₁ => ob = .ref s.heap.objs.size ∧ s₁ = { s with heap := s.heap.push { cls := .type "set", dict := none, data := .set #[] 0 (.fresh 0 0 (!w.params.followText "set-order")) } }) ⟨rfl, rfl⟩) fun r s₁ rr => ?_
  cases r with
  | error e => exact rr
  | ok fw =>
    cases fw with
    | ret ob =>
      obtain ⟨rfl, rfl⟩ := rr
      have kS : (s.heap.push { cls := .type "set", dict := none, data := .set #[] 0 (.fresh 0 0 (!w.params.followText "set-order")) }).get? s.heap.objs.size = some { cls := .type "set", dict := none, data := .set #[] 0 (.fresh 0 0 (!w.params.followText "set-order")) } := Heap.get?_push_size _ rfl
      have kT : Shared.TypeIs { s with heap := s.heap.push { cls := .type "set", dict := none, data := .set #[] 0 (.fresh 0 0 (!w.params.followText "set-order")) } } (.ref s.heap.objs.size) "set" := ⟨_, kS, rfl⟩
      have kli := F.called_set.init.lookup
      have kbi := F.called_set.init.bind (.ref s.heap.objs.size)
      repeat (any_goals (first | assumption | wp_step))

      refine codeAny_mono (codeAny_call_builtin (R := wants (fun r s₂ => r = .none ∧ ∃ hq tk c, s₂ = { s with heap := hq, toks := tk } ∧ SetR w hq s.heap.objs.size (fun j => decide (j ∈ ns)) c ∧ c ≤ ns.length ∧
          (∀ b o, s.heap.get? b = some o → hq.get? b = some o)) E) F.called_set.init.plain F.entry_set_init (check_set_init_1 kT ?_)) fun r₂ s₂ hr₂ => ?_
      · obtain ⟨ob0, hob, kcl, kn, kdl⟩ := hl
        obtain ⟨kc, kd, kx, ksl⟩ := ob0
        simp only at kcl kdl
        subst kcl; subst kdl
        have hob1 : (s.heap.push { cls := .type "set", dict := none, data := .set #[] 0 (.fresh 0 0 (!w.params.followText "set-order")) }).get? l = some { cls := .type "list", dict := kd, data := .seq arr kn, slots := ksl } := Heap.get?_push_of_some _ hob
        have q1 := F.sub_list_set
        have q2 := F.sub_list_frozenset
        have q3 : (Value.type "list" == Value.type "dict") = false := by decide
        have q4 : (s.heap.push { cls := .type "set", dict := none, data := .set #[] 0 (.fresh 0 0 (!w.params.followText "set-order")) }).IsList l arr := ⟨_, hob1, rfl, kn, rfl⟩
        unfold Builtin.«set.__init__» noKeywords Builtin.Frozenset.updateFrom
        generalize hPI : pyIter = PI
        wp_walk
        subst hPI

        refine wpAny_pyIter_list q4 ?_
        refine wpAny_bind (wpAny_runValue ?_)
        have q5 : l < s.heap.objs.size := Heap.lt_size hob
        have q6 : A.in1.in1.in1.handled = none := by simp [hh]
        have q7 : (s.heap.push { cls := .type "set", dict := none, data := .set #[] 0 (.fresh 0 0 (!w.params.followText "set-order")) }).objs.size = s.heap.objs.size + 1 := Heap.size_push ..
        have q8 : l ≠ (s.heap.push { cls := .type "set", dict := none, data := .set #[] 0 (.fresh 0 0 (!w.params.followText "set-order")) }).objs.size := by
          rw [Heap.size_push]; exact Nat.ne_of_lt (Nat.lt_succ_of_lt q5)
        have q9 : s.heap.objs.size ∉ [(s.heap.push { cls := .type "set", dict := none, data := .set #[] 0 (.fresh 0 0 (!w.params.followText "set-order")) }).objs.size, l] := by
          rw [Heap.size_push]; simp only [List.mem_cons, List.mem_singleton, List.not_mem_nil, or_false, not_or]
          exact ⟨Nat.ne_of_lt (Nat.lt_succ_self _), Nat.ne_of_gt q5⟩
        have qv : ∀ (i : Nat) (v : Value), arr[i]? = some v → ∃ k t, ns[i]? = some k ∧ v = .int k t := fun i v hv => by
          have hi : i < ns.length := by rw [← hasz]; exact (Array.getElem?_eq_some_iff.mp hv).1
          obtain ⟨t, e⟩ := PyProof.Rows.IntsAre.int_at hia i v (by rw [Array.getElem?_toList]; exact hv)
          refine ⟨ns[i], t, List.getElem?_eq_getElem hi, ?_⟩
          rw [e, List.getD_eq_getElem?_getD, List.getElem?_eq_getElem hi] <;> rfl
        refine set_update_ints ((Walks.list q6 _ l q8 arr).toS) s.heap.objs.size
          q9 ns hasz hb qv (arr.size - 0) 0 _ (by omega) (Nat.zero_le _)
          ⟨⟨_, Heap.get?_push_size _ rfl, rfl, rfl⟩, (q4.push _)⟩ ?hS0 ?hR
        case hS0 =>
          have kget : ((s.heap.push { cls := .type "set", dict := none, data := .set #[] 0 (.fresh 0 0 (!w.params.followText "set-order")) }).push { cls := .type "list_iterator", data := .fields #[.ref l, .int 0 0] }).get? s.heap.objs.size
              = some { cls := .type "set", dict := none, data := .set #[] 0 (.fresh 0 0 (!w.params.followText "set-order")) } := Heap.get?_push_of_some _ kS
          exact ⟨0, Nat.le_refl 0, setR_new_at kget⟩
        case hR =>
          intro s' c' km kc2 kS2
          obtain ⟨hq, g2, d', tk', os'⟩ := s'
          have e1 : g2 = s.gens := km.gens
          have e2 : d' = s.drawn := km.drawn
          have e3 : os' = s.os := km.os
          subst e1; subst e2; subst e3
          show wpAny _ _ _ _ _ _
          refine wpAny_pure ?_
          show wpAny _ _ (ret Value.none) _ _ _
          rw [hasz] at kc2
          refine wpAny_pure ⟨rfl, hq, tk', c', rfl, kS2, kc2, fun b o e => ?_⟩
          have b0 : b < s.heap.objs.size := Heap.lt_size e
          have b1 : b ≠ s.heap.objs.size := Nat.ne_of_lt b0
          have b2 : b ≠ (s.heap.push { cls := .type "set", dict := none, data := .set #[] 0 (.fresh 0 0 (!w.params.followText "set-order")) }).objs.size := by
            rw [Heap.size_push]; exact Nat.ne_of_lt (Nat.lt_succ_of_lt b0)
          exact km.heap b o (by simp only [List.mem_cons, List.mem_singleton, List.not_mem_nil, or_false, not_or]; exact ⟨b1, b2⟩) (Heap.get?_push_of_some _ (Heap.get?_push_of_some _ e))

      · cases r₂ with
        | error e => exact hr₂
        | ok fl₂ =>
          cases fl₂ with
          | ret r =>
            obtain ⟨rfl, hq, tk, c', rfl, kS2, kc2, hk'⟩ := hr₂
            repeat (any_goals (first | assumption | wp_step))
            exact h _ _ _ kS2 kc2 hk'
          | _ => exact hr₂.elim
    | _ => exact rr.elim
end

theorem dedupI_mem {x : Int} : ∀ {l : List Int}, x ∈ dedupI l ↔ x ∈ l
  | [] => Iff.rfl
  | y :: ys => by
    unfold dedupI
    by_cases h : ys.contains y = true
    · rw [if_pos h, dedupI_mem, List.mem_cons]
      refine ⟨fun z => .inr z, fun z => z.elim (fun e => ?_) fun z => z⟩
      rw [e]; exact List.contains_iff_mem.mp h
    · rw [if_neg h, List.mem_cons, List.mem_cons, dedupI_mem]
theorem dedupI_nodup : ∀ {l : List Int}, (dedupI l).Nodup
  | [] => by simp [dedupI]
  | y :: ys => by
    unfold dedupI
    by_cases h : ys.contains y = true
    · rw [if_pos h]; exact dedupI_nodup
    · rw [if_neg h, List.nodup_cons]
      exact ⟨fun z => h (List.contains_iff_mem.mpr (dedupI_mem.mp z)), dedupI_nodup⟩
theorem setI_eq {l ns : List Int} (h1 : ns.Pairwise (· < ·)) (h2 : ∀ k : Int, k ∈ ns ↔ k ∈ l) : ns = sortI (dedupI l) := by
  refine PySem.W.ksm_same ?_ (h1.imp fun h => Int.le_of_lt h) (sortI_pw _)
  refine List.Perm.trans ?_ (sortI_perm _).symm
  refine (List.perm_ext_iff_of_nodup (h1.imp fun h => Int.ne_of_lt h) dedupI_nodup).mpr fun k => ?_
  rw [h2, dedupI_mem]
def rSetP (w : World) (K : PySem.W.Frag) : List V → Hp → VK → Prop := fun vs H Q => ∃ (Pz : Addr → Prop) (ds : List PyData) (ns : List Int), RpBs K H Pz vs [.list ds] ∧ intsOf ds = some ns ∧ ns.length < 64 ∧ ∀ p c, H p = none → c < 64 → Q (.ref p) (upd H p (SetO w p (fun j => decide (j ∈ ns)) c))
section
variable {X : Cx}
theorem call_setP (hc : X.calm = true) : CallR X (.type "set") (rSetP X.w X.K) := by
  intro pins s σ H xs us Q I r ⟨Pz, ds, ns, hd, e, hl, q⟩
  obtain ⟨v, rfl, h⟩ := one hd
  obtain ⟨a, ys, rfl, h1, ha⟩ := h.list
  have := rpA_list_ints e ha
  subst this
  obtain ⟨its, rv, hls, hz⟩ := I.list (.inl h1)
  rw [Vals.ref1 r]
  refine call_set_lstP ns (I.ok.hd hc) hls.isList (ints_of_vals rv) (by unfold scanBound; omega) fun h' tk c R1 hcn k => ?_
  exact ⟨.ref _, upd H s.heap.objs.size (SetO X.w s.heap.objs.size (fun j => decide (j ∈ ns)) c), I.laid (t' := tk) k (Nat.le_refl _) (setO_new R1), rfl, q _ c (I.hok.fresh (Nat.le_refl _)) (Nat.lt_of_le_of_lt hcn hl)⟩
end
end PV

set_option Elab.async false
set_option linter.all false
set_option maxRecDepth 100000
set_option maxHeartbeats 4000000
/-! PVX: reversed sequences, list(range(..)), repr of plain data, list.count. -/
namespace PV
open PySem PySem.Spec PyProof.Rows L2
section
variable {prog : Program} {w : World} {A : Around} {E : Value → Shared → Prop} {s : Shared}
theorem back_bounds (n : Nat) : Builtin.Slice.sliceAdjust none none (-1) (n : Int) = ((n : Int) - 1, -1) := by
  unfold Builtin.Slice.sliceAdjust
  simp
theorem back_places (n : Nat) : Builtin.Slice.slicePlaces ((n : Int) - 1) (-1) (-1) = n := by
  unfold Builtin.Slice.slicePlaces
  have h1 : ¬ ((-1 : Int) > 0) := by omega
  simp only [h1, if_false]
  have h2 : -(-1 : Int) = 1 := by omega
  rw [h2, Int.ediv_one]
  split <;> omega
theorem back_applied {sl : Addr} {t : Tok} {n : Nat} {Q : Int × Int × Nat → Shared → Prop} (hs : s.heap.IsSliceOf sl .none .none (.int (-1) t)) (h : Q ((n : Int) - 1, -1, n) s) :
    wpAny (model prog w) A (Builtin.Slice.sliceApplied (.ref sl) (pure (n : Int))) Q E s := by
  obtain ⟨os, hos, hcs, hds⟩ := id hs
  unfold Builtin.Slice.sliceApplied Builtin.Slice.sliceFields
  refine wpAny_bind (wpAny_bind (wpAny_field hos hds (x := Value.none) rfl (wpAny_bind (wpAny_field hos hds (x := Value.none) rfl (wpAny_bind (wpAny_field hos hds (x := Value.int (-1) t) rfl
    (wpAny_pure ?_)))))))
  refine wpAny_bind (slicePart_int ?_)
  show wpAny _ _ (if ((-1 : Int) == 0) = true then _ else _) _ _ s
  rw [if_neg (by decide)]
  refine wpAny_bind (slicePart_none (wpAny_bind (slicePart_none (wpAny_bind (wpAny_pure ?_)))))
  show wpAny _ _ (match Builtin.Slice.sliceAdjust none none (-1) (n : Int) with | (lo, hi) => pure (lo, (-1 : Int), Builtin.Slice.slicePlaces lo hi (-1))) _ _ s
  rw [back_bounds]
  show wpAny _ _ (pure ((n : Int) - 1, (-1 : Int), Builtin.Slice.slicePlaces ((n : Int) - 1) (-1) (-1))) _ _ s
  rw [back_places]
  exact wpAny_pure h
theorem fm_congr {α β : Type} {f g : α → Option β} : ∀ {l : List α}, (∀ x ∈ l, f x = g x) → l.filterMap f = l.filterMap g
  | [], _ => rfl
  | x :: l, h => by rw [List.filterMap_cons, List.filterMap_cons, h x List.mem_cons_self, fm_congr fun y hy => h y (List.mem_cons_of_mem _ hy)]
theorem back_pick (xs : List Value) : ((List.range xs.length).filterMap fun (m : Nat) => xs.toArray[((xs.length : Int) - 1 + (m : Int) * (-1)).toNat]?) = xs.reverse := by
  apply List.ext_getElem?
  intro i
  have e : ((List.range xs.length).filterMap fun (m : Nat) => xs.toArray[((xs.length : Int) - 1 + (m : Int) * (-1)).toNat]?) = (List.range xs.length).map fun m => (xs[xs.length - 1 - m]?).getD .none := by
    rw [← List.filterMap_eq_map]
    refine fm_congr fun m hm => ?_
    rw [List.mem_range] at hm
    have e1 : ((xs.length : Int) - 1 + (m : Int) * (-1)).toNat = xs.length - 1 - m := by omega
    rw [e1]
    have h2 : xs.length - 1 - m < xs.length := by omega
    simp [List.getElem?_eq_getElem h2]
  rw [e, List.getElem?_map]
  by_cases hi : i < xs.length
  · rw [List.getElem?_range hi, List.getElem?_reverse hi]
    have h2 : xs.length - 1 - i < xs.length := by omega
    simp [List.getElem?_eq_getElem h2]
  · rw [List.getElem?_eq_none (by simpa using hi), List.getElem?_eq_none (by simpa using hi)]
    rfl
theorem back_tuple {t sl : Addr} {xs : List Value} {k : Tok} {Q : Value → Shared → Prop} (ht : IsTup s.heap t xs.toArray) (hs : s.heap.IsSliceOf sl .none .none (.int (-1) k))
    (h : Q (.ref s.heap.objs.size) { s with heap := s.heap.push { cls := .type "tuple", data := .seq xs.reverse.toArray } }) (hsz : xs.length ≤ sizeLine) : wpAny (model prog w) A (getItem (.ref t) (.ref sl)) Q E s := by
  have hz : sizeOk (.seq xs.reverse.toArray) := by
    show xs.reverse.toArray.size ≤ sizeLine
    rw [List.size_toArray, List.length_reverse]
    exact hsz
  obtain ⟨os, hos, hcs, hds⟩ := id hs
  have hTs : s.TypeIs (.ref sl) "slice" := ⟨os, hos, hcs⟩
  unfold getItem
  try with_reducible refine wpAny_holding ?_
  first | refine wpAny_bind (wpAny_pure ?_) | skip
  refine wpAny_bind (wpAny_sequenceKey ht.typeIs (by decide) ?_)
  refine wpAny_bind (wpAny_callSpecial?_slot (name := Str.ofString "__getitem__") ht.typeIs PyProof.Rows.slot_tuple_getitem (wpAny_call_entry PyProof.Rows.slot_tuple_getitem ht.typeIs entry_tuple_getitem ?_ (args_tuple_getitem _ _)))
  show wpAny _ _ (Builtin.Tuple.tupleItemsOf (.ref t) >>= _) _ _ s
  refine wpAny_bind (tupleItemsOf_ ht (wpAny_bind (wpAny_typeOf hTs ?_)))
  rw [if_pos (by decide)]
  have hn : xs.toArray.size = xs.length := List.size_toArray
  refine wpAny_bind (m := Builtin.Slice.sliceApplied (.ref sl) (pure ((xs.toArray.size : Nat) : Int))) ?_
  rw [hn]
  refine back_applied hs ?_
  show wpAny _ _ (if (((xs.length : Int) - 1) == 0 && (-1 : Int) == 1 && xs.length == xs.toArray.size) = true then _ else _) _ _ s
  have hno : ¬ ((((xs.length : Int) - 1) == 0 && (-1 : Int) == 1 && xs.length == xs.toArray.size) = true) := by simp
  rw [if_neg hno, back_pick]
  first
    | exact wpAny_bind (m := Builtin.Tuple.tupleExact _) (wpAny_newObj_type (wpAny_pure ⟨_, rfl, wpAny_pure h⟩) hz)
    | exact wpAny_bind (m := Builtin.Tuple.tupleExact _) (wpAny_newObj_type (wpAny_bind (wpAny_pure (wpAny_pure ⟨_, rfl, wpAny_pure h⟩))) hz)
    | exact wpAny_bind (wpAny_bind (m := Builtin.Tuple.tupleExact _) (wpAny_newObj_type (wpAny_pure (wpAny_pure ⟨_, rfl, wpAny_pure h⟩)) hz))
    | exact wpAny_bind (wpAny_bind (m := Builtin.Tuple.tupleExact _) (wpAny_newObj_type (wpAny_pure ⟨_, rfl, wpAny_pure h⟩) hz))
end
def tRevB (K : PySem.W.Frag) (te : TE) : TE := fun σ H Q => te σ H fun x H1 => ∃ a xs, x = .ref a ∧ ((SqL K H1 a xs ∧ ∀ p, H1 p = none → Q (.ref p) (upd H1 p (.lst xs.reverse))) ∨ (SqT K H1 a xs ∧ ∀ p, H1 p = none → Q (.ref p) (upd H1 p (.tup xs.reverse))))
theorem pe_revB {X : Cx} {e : Expr} {te : TE} {k : Nat} {p1 p2 p3 pos : Pos} (he : PE X e te) : PE X (.Subscript e (.Slice none none (some (.UnaryOp .USub (.Constant (.int 1) k p1) p2)) p3) pos) (tRevB X.K te) := by
  refine ⟨fun pins s σ H Q I h => Subscript_ (thn (he.run pins s σ H _ I h) fun v s1 ⟨x, H1, I1, r1, a, xs, ex, q⟩ => ?_)⟩
  subst ex
  cases r1
  have hst : PO X (some (.UnaryOp .USub (.Constant (.int 1) k p1) p2)) (tPart (tUn (rU fun i => .int (-i)) (tC (.int 1)))) := po_some (pe_un un_neg pe_int)
  refine wpAny_Slice (thn (po_none.run pins s1 σ H1 (fun o H2 => o = none ∧ H2 = H1) I1 ⟨rfl, rfl⟩) fun vl s2 ⟨l, H2, I2, pl, el, e2⟩ => thn (po_none.run pins s2 σ H2 (fun o H3 => o = none ∧ H3 = H2) I2 ⟨rfl, rfl⟩)
    fun vu s3 ⟨u, H3, I3, pu, eu, e3⟩ => thn (hst.run pins s3 σ H3 (fun o H4 => o = some (-1) ∧ H4 = H3) I3 ⟨1, rfl, -1, rfl, rfl, rfl⟩) fun vs s4 ⟨o, H4, I4, ps, eo, e4⟩ => ?_)
  subst el e2 eu e3 eo e4
  cases pl
  cases pu
  cases ps with
  | int i t =>
  have I5 : Inv X pins σ H4 { s4 with heap := s4.heap.push { cls := .type "slice", data := .fields #[Value.none, Value.none, Value.int (-1) t] } } := I4.kept (t' := s4.toks) fun b ob q => Heap.get?_push_of_some _ q
  show wpAny (model X.prog X.w) X.A (subscriptTail e (.Slice none none (some (.UnaryOp .USub (.Constant (.int 1) k p1) p2)) p3) (.ref a) (.ref s4.heap.objs.size)) (EP X pins σ Q) X.xe _
  rcases q with ⟨hx, q⟩ | ⟨hx, q⟩
  · obtain ⟨its, r, ht, hz⟩ := I5.list hx
    have hlen := r.length
    refine tail_any (ops := [.ref a, .ref s4.heap.objs.size]) ht.isList.typeIs (PySem.slot_list_getitem.lookup) ?_ (by with_unfolding_all rfl)
    refine wpAny_getItem_list_slice ht.isList (Heap.IsSliceOf.new _ Value.none Value.none (Value.int (-1) t)) .none .none (.int (-1) t) (by decide) ?_ (by rw [List.size_toArray]; omega)
    rw [PySem.W.krv_pick]
    refine ⟨.ref _, _, I5.laid (t' := s4.toks) (o := .lst xs.reverse) (fun b ob q => Heap.get?_push_of_some _ q) (Nat.le_refl _) ?_, rfl, q _ (I5.hok.fresh (Nat.le_refl _))⟩
    exact ⟨by rw [List.length_reverse]; exact hz, _, 0, r.reverse, Heap.get?_push_size _ rfl⟩
  · obtain ⟨its, r, ht, hz⟩ := I5.tuple hx
    have hlen := r.length
    refine tail_any (ops := [.ref a, .ref s4.heap.objs.size]) ht.typeIs (PyProof.Rows.slot_tuple_getitem.lookup) ?_ (by with_unfolding_all rfl)
    refine back_tuple (xs := its) ht (Heap.IsSliceOf.new _ Value.none Value.none (Value.int (-1) t)) ?_ (by omega)
    refine ⟨.ref _, _, I5.laid (t' := s4.toks) (o := .tup xs.reverse) (fun b ob q => Heap.get?_push_of_some _ q) (Nat.le_refl _) ?_, rfl, q _ (I5.hok.fresh (Nat.le_refl _))⟩
    exact ⟨by rw [List.length_reverse]; exact hz, _, r.reverse, IsTup.new _ _⟩
/-- no repr is under way -/
abbrev Still (A : Around) : Prop := A.guards = some []
section
variable {X : Cx}
theorem call_reprP (g : Still X.A) (hu : X.A.units + 64 < cLine) : CallR X (.builtin "repr") (rBI X.K .repr) := by
  intro pins s σ H xs us Q I r ⟨P, ds, rr, hP, hd, ev, q⟩
  rcases ds with _ | ⟨d, _ | ⟨e, l⟩⟩
  · exact absurd ev (by simp [evBI])
  · have ev : (if d.showable && !d.hasDict && Nat.ble d.depth 50 && lenOk (d.shown.length + 64) then some (false, PyData.str d.shown) else none) = some rr := ev
    split at ev
    · rename_i hc
      cases ev
      simp only [Bool.and_eq_true, Bool.not_eq_true'] at hc
      obtain ⟨⟨⟨c1, c2⟩, c3⟩, c4⟩ := hc
      have c3 := Nat.le_of_ble_eq_true c3
      have c4 := lenOk_le c4
      obtain ⟨x, rfl, hx⟩ := one hd
      obtain ⟨u, rfl, rx⟩ := r.one
      obtain ⟨as, rd⟩ := Dp.reads I d x u hx.dp rx
      have fin : ∀ (h' : Heap) (t : Tok) (tk : Nat), (∀ b o, s.heap.get? b = some o → h'.get? b = some o) → EP X pins σ Q (.str d.shown t) { s with heap := h', toks := tk } := fun h' t tk hk =>
        ⟨.str d.shown, H, I.kept hk, ⟨t, rfl⟩, q _ _ (Same.refl H) (.str _)⟩
      have seq : ∀ a, u = .ref a → wpAny (model X.prog X.w) X.A (call (.builtin "repr") [u]) (EP X pins σ Q) X.xe s := fun a e => by
        subst e
        exact repr_of_reads' rd c1 (fun z => absurd (c2.symm.trans z) Bool.false_ne_true) g (by omega) (fun b o e => e) (fun h' t tk hk => fin h' t tk hk) (by omega)
      cases rd with
      | none => exact PySem.P.repr_of_none (fin s.heap _ _ fun _ _ e => e)
      | bool b => exact PySem.P.repr_of_bool (fin s.heap _ _ fun _ _ e => e)
      | int i t => exact PySem.P.repr_of_int (by simpa [PyData.showable] using c1) (fin s.heap _ _ fun _ _ e => e)
      | str x t => exact PySem.P.repr_of_str (fin s.heap _ _ fun _ _ e => e) (by have : (reprText x).length + 64 ≤ sizeLine := c4; omega)
      | list => exact seq _ rfl
      | tuple => exact seq _ rfl
      | dict => exact seq _ rfl
    · cases ev
  · exact absurd ev (by simp [evBI])
theorem mt_countP (hu : X.A.units + 65 < cLine) : MtR X "list.count" (fun x xs H Q => rBI X.K .count (x :: xs) H Q) := by
  intro pins s σ H x xs v us Q I rx rxs ⟨P, ds, rr, hP, hd, ev, q⟩
  rcases ds with _ | ⟨d0, _ | ⟨d, _ | ⟨e, l⟩⟩⟩
  · exact absurd ev (by simp [evBI])
  · exact absurd ev (by simp [evBI])
  · obtain ⟨es, rfl⟩ : ∃ es, d0 = .list es := by
      cases d0 with
      | list es => exact ⟨es, rfl⟩
      | _ => exact absurd ev (by simp [evBI])
    have ev : (if dok d && dok (.list es) then some (false, PyData.int (es.countP fun y => PyData.eqv y d : Nat)) else none) = some rr := ev
    split at ev
    · rename_i hc
      rw [Bool.and_eq_true] at hc
      obtain ⟨o1, o2⟩ := hc
      obtain ⟨p1, n1⟩ := dok_plain o1
      obtain ⟨p2, n2⟩ := dok_plain o2
      have p3 : PyData.plainAll es = true := by simpa [PyData.plain] using p2
      cases ev
      cases hd with
      | cons hd1 hd2 =>
        obtain ⟨y, rfl, hy⟩ := one hd2
        obtain ⟨a, ys, rfl, h1, ha⟩ := hd1.list
        cases rx
        obtain ⟨uy, rfl, ry⟩ := rxs.one
        obtain ⟨bs, r1⟩ := Dp.reads I d y uy hy.dp ry
        obtain ⟨its, rv, ⟨⟨cls, dd, data, sls⟩, n, ho, hc, hdn, hdt⟩, hlen⟩ := I.list (.inl h1)
        simp only at hc hdt
        subst hc hdt
        obtain ⟨as, h4⟩ := Dp.readsAll I es _ its (RpA.dp es _ ha) rv
        have hmap : its.map (SeqAt.readOf s.heap) = es := SeqAt.readsAll_map_plain es its as p3 h4
        have hm : min (PyData.depthAll es) d.depth ≤ 50 := Nat.le_trans (Nat.min_le_right _ _) n1
        refine call_meets PySem.F.slot_list_count ⟨_, ho, rfl⟩ PySem.F.entry_list_count (PySem.F.args_list_count_2 _ _)
          (SeqAt.list_countAt a its.toArray n dd sls uy (fun u => PyData.eqv (SeqAt.readOf s.heap u) d)) ⟨ho, SeqAt.items_plain (vs := its.toArray) (show ReadsAll s.heap its.toArray.toList es as from h4) r1 p3 p1 (by omega), ?_⟩
        have e1 : its.toArray.toList.countP (fun u => PyData.eqv (SeqAt.readOf s.heap u) d) = es.countP fun y => PyData.eqv y d := by
          rw [← hmap, List.countP_map]
          rfl
        rw [e1]
        exact ⟨.int _, H, I.tok _, ⟨_, rfl⟩, q.sh (.int _)⟩
    · cases ev
  · exact absurd ev (by cases d0 <;> simp [evBI])
end
end PV

set_option Elab.async false
set_option linter.all false
set_option maxRecDepth 100000
set_option maxHeartbeats 4000000
/-! PVG: promises of defs that are called where no repr is under way. -/
namespace PV
open PySem PySem.Spec PyProof.Rows L2


structure FnG (P : Program) (w : World) (K : PySem.W.Frag) (mg : Str → Option Value) (base : Heap) (k : Nat) (f : Addr) (fd : FuncData) (ps : List Str) (sp : Sp) : Prop where
  len : ∀ xs H Q E, sp xs H Q E → xs.length = ps.length
  run : ∀ (A : Around) (out : List Env) (s : Shared) (H : Hp) (args : Args) (us : List Value) (xs : List V) (Q : VK) (E : XK), Still A → Room k A → Env0 P w K mg base A out s H → BindsTo s fd args (ps.zip us) → Vals xs us → sp xs H Q E →
    codeAny (model P w) A (.call (.ref f) args) (CR CX0 out P w H s Q E) s
section
variable {P : Program} {w : World} {K : PySem.W.Frag} {mg : Str → Option Value} {base : Heap}
theorem FnG.mono {j k : Nat} {f : Addr} {fd : FuncData} {ps : List Str} {sp : Sp} (F : FnG P w K mg base j f fd ps sp) (h : j ≤ k) : FnG P w K mg base k f fd ps sp :=
  ⟨F.len, fun A out s H args us xs Q E g r => F.run A out s H args us xs Q E g (r.mono h)⟩
theorem FnG.of {k : Nat} {f : Addr} {fd : FuncData} {ps : List Str} {sp : Sp} (F : FnOk P w K mg base CX0 k f fd ps sp) : FnG P w K mg base k f fd ps sp :=
  ⟨F.len, fun A out s H args us xs Q E _ r => F.run A out s H args us xs Q E r⟩
theorem FnG.imp {k : Nat} {f : Addr} {fd : FuncData} {ps : List Str} {sp sp' : Sp} (F : FnG P w K mg base k f fd ps sp) (h : ∀ xs H Q E, sp' xs H Q E → sp xs H Q E) : FnG P w K mg base k f fd ps sp' :=
  ⟨fun xs H Q E q => F.len xs H Q E (h _ _ _ _ q), fun A out s H args us xs Q E g r e b v q => F.run A out s H args us xs Q E g r e b v (h _ _ _ _ q)⟩
/-- a def by its body -/
theorem fnG_of {x qual : Str} {st : Stmt} {f : Addr} {fd : FuncData} {N ps : List Str} {k : Nat} {sp : Sp} (F : Fun K x qual st f fd) (S : FnScope N ps (defScope st)) (len : ∀ xs H Q E, sp xs H Q E → xs.length = ps.length)
    (body : ∀ (cdv : Value) (A : Around) (out : List Env) (s : Shared) (H : Hp) (xs : List V) (Q : VK) (E : XK), Still (A.deeper (envOfC qual (defScope st) s.heap.objs.size f cdv)) → Room k (A.deeper (envOfC qual (defScope st) s.heap.objs.size f cdv)) → sp xs H Q E →
      ∃ t, PSs (cxOf CX0 P w K mg base N qual (defScope st) f cdv A out s H E).nox (defBody st) t ∧ t { nx := fun _ H' => Q .non H', rt := Q } (L2.start N xs) H) : FnG P w K mg base (k + 1) f fd ps sp := by
  obtain ⟨oc, od, kV, doc, pm, an, cdv, ct, osl, rfl, lk, hcd⟩ := F.ex
  refine ⟨len, fun A out s H args us xs Q E g hr e0 hb r hsp => ?_⟩
  have hlen := len _ _ _ _ hsp
  have inH : K.In s.heap := e0.mod.kin.keeps fun b o z => (e0.bs b o z).1
  have noLim : s.heap.NoLimit := e0.mod.nolimit.keeps fun b o z => (e0.bs b o z).1
  refine codeAny_call_function hr.depth (inH _ _ lk) rfl S.co S.gen rfl (PySem.W.codeRec_of inH hcd) (hb _ _ _ _ ?_)
  refine wpAny_newFunctionEnv_cells S.kind (fun p hp => ?_) fun env he s1 x => ?_
  · rcases S.par p.1 (List.of_mem_zip (a := p.1) (b := p.2) hp).1 with z | z
    · exact Or.inl z
    · exact Or.inr ⟨z, PySem.W.cellsFrom_some _ _ _ (Or.inl z)⟩
  · subst he
    obtain ⟨t, ht, hq⟩ := body cdv A out s H xs Q E g (hr.deeper _) hsp
    refine ⟨noLim.keeps x.toInCall.keep, codeAny_func ?_⟩
    have I : Inv (cxOf CX0 P w K mg base N qual (defScope st) f cdv A out s H E) [] (L2.start N xs) H s1 := inv_start S hr.hd e0 hlen r x
    refine wpAny_mono (ht.nox.run [] s1 (L2.start N xs) H _ I hq) (fun fl s' hs => ?_) fun e s' hs => hs
    cases fl with
    | ret u => exact let ⟨v, σ', H', J, rv, q⟩ := hs; ⟨v, H', J.os, J.bare, J.base, J.hok, rv, q⟩
    | next => exact let ⟨σ', H', J, q⟩ := hs; ⟨V.non, H', J.os, J.bare, J.base, J.hok, rfl, q⟩
    | brk => exact let ⟨_, _, _, q⟩ := hs; False.elim q
    | cont => exact let ⟨_, _, _, q⟩ := hs; False.elim q
end
section
variable {X : Cx} {k : Nat} {f : Addr} {fd : FuncData} {ps : List Str} {sp : Sp} {x : Str} {p pos : Pos} {e : Expr} {es : List Expr} {t : TA}
theorem run_fnG {pins : List (Addr × Obj)} {σ : L2.St} {H : Hp} {s : Shared} {Q : VK} {us : List Value} {xs : List V} (F : FnG X.prog X.w X.K X.mg X.base k f fd ps sp) (g : Still X.A) (hr : Room k X.A) (hb : Binds X.K fd ps [])
    (I : Inv X pins σ H s) (r : Vals xs us) (h : sp xs H Q E0) : wpAny (model X.prog X.w) X.A (call (.ref f) us) (EP X pins σ Q) X.xe s := by
  have hl : (us ++ []).length = ps.length := by
    rw [List.append_nil, ← r.length]
    exact F.len _ _ _ _ h
  have hbb := hb s us I.kIn hl
  rw [List.append_nil] at hbb
  refine wpAny_call (codeAny_mono (F.run X.A X.stack s H ⟨us, []⟩ us xs Q E0 g hr I.env0 hbb r h) fun res s' hq => ?_)
  cases res with
  | error e => exact False.elim hq
  | ok fl => cases fl <;> first | exact I.after hq | exact False.elim hq
theorem pe_callG (F : FnG X.prog X.w X.K X.mg X.base k f fd ps sp) (g : Still X.A) (hr : Room k X.A) (hg : Gl X x) (hm : X.mg x = some (.ref f)) (hk : PySem.W.keepIn X.K (.ref f) = true) (hb : Binds X.K fd ps [])
    (ha : PA X (e :: es) t) (hdb : (x == ("__debug__" : Str)) = false) (he : starEach (e :: es) X.env = (false, eval e X.env) :: starEach es X.env) (hpl : (backTo pos (starEach es X.env)).any (·.1) = false) : PE X (.Call (.Name x p) (e :: es) [] pos) (tCall sp [] E0 t) :=
  ⟨fun pins s σ H Q I h => wpAny_Call_Name_kw (ld_glob I hg hm (PySem.W.callWith_K (h₀ := X.base) I.ok.mod.kin hk (thn (ha.run pos pins s σ H _ I h) fun us s1 ⟨xs, H1, I1, r, q⟩ => ⟨I1.kIn, run_fnG F g hr hb I1 r (by have q : sp (xs ++ []) H1 Q E0 := q; rw [List.append_nil] at q; exact q)⟩) he hpl) hdb)⟩
theorem pe_callG0 (F : FnG X.prog X.w X.K X.mg X.base k f fd ps sp) (g : Still X.A) (hr : Room k X.A) (hg : Gl X x) (hm : X.mg x = some (.ref f)) (hk : PySem.W.keepIn X.K (.ref f) = true) (hb : Binds X.K fd ps [])
    (hdb : (x == ("__debug__" : Str)) = false) : PE X (.Call (.Name x p) [] [] pos) (tCall sp [] E0 tNil) :=
  ⟨fun pins s σ H Q I h => wpAny_Call_Name_kw (ld_glob I hg hm (PySem.W.callWith_K0 I.kIn hk (run_fnG (us := []) F g hr hb I .nil h)) hdb)⟩
end
theorem still_caller : Still callerA := by first | rfl | decide
theorem still_deeper {A : Around} (g : Still A) (env : Env) : Still (A.deeper env) := by
  first | exact g | (unfold Still at *; simp [Around.deeper, g]) 
section
variable {P : Program} {w : World} {K : PySem.W.Frag} {mg mb : Str → Option Value}
/-- the law's call over a heap in which at most the script is tracked -/
theorem law_core {k : Nat} {fa a : Addr} {fd : FuncData} {x : Str} {sp : Sp} {s : Shared} {us : List Value} (KX : K.In s.heap) (hns : s.heap.Ns mainGlobals mg) (hb : s.heap.Ns builtinsNs mb) (hbb : ∀ y : Str, y ≠ "__name__" → mb y = bootBuiltins y)
    (hlim : s.heap.NoLimit) (hg : s.gens = #[]) (ha : s.heap.get? a = some { cls := .type "list", data := .seq us.toArray }) (hr : Room k callerA) (F : ∀ base : Heap, K.In base → base.Ns mainGlobals mg → FnG P w K mg base k fa fd [x] sp)
    (bnd : ∀ (z : Shared) (u : Value), BindsTo z fd ⟨[u], []⟩ [(x, u)]) (H : Hp) (hO : Only H) (h : sp [.ref a] H (fun v _ => v = .bl true) E0) (hok : HOk P w H s.heap) (hA : ∀ b, H b ≠ none → b = a) (hK : H a ≠ none → K.lookup a = none) :
    codeAny (model P w) callerA (.call (.ref fa) ⟨[.ref a], []⟩) (fun r s' => r = .ok (.ret (.bool true)) ∧ OldK s.heap s'.heap ∧ s'.os = s.os ∧ AllBare s'.gens) s := by
  have free : ∀ {b : Addr} {o : Obj} {es : Array DictEntry} {n : Nat}, s.heap.get? b = some o → o.data = .dict es n → H b = none := fun {b o es n} e z => Classical.byContradiction fun q => by
    have hb := hA b q
    subst hb
    rw [ha] at e
    cases e
    cases (show Data.seq us.toArray _ = Data.dict es n from z)
  have keep : ∀ {b : Addr} {m : Str → Option Value}, s.heap.Ns b m → (hidT s.heap H).Ns b m := fun {b m} ⟨o, es, n, e, z, r⟩ => ⟨o, es, n, hidT_get e (free e z), z, r⟩
  have inb : K.In (hidT s.heap H) := fun b o e => hidT_get (KX b o e) (Classical.byContradiction fun q => by
    have hb := hA b q
    subst hb
    rw [hK q] at e
    cases e)
  obtain ⟨mc, l1, l2⟩ := hlim
  have env : Env0 P w K mg (hidT s.heap H) callerA [] s H := ⟨rfl, ⟨inb, keep hns, ⟨mb, keep hb, hbb⟩, ⟨mc, keep l1, l2⟩⟩, fun _ _ e => of_hidT e, Nat.le_of_eq (hidT_size _ _), trivial, fun b z => absurd (show b ∈ ([] : List Addr) from z) (by simp), hok, .of_eq hg⟩
  refine codeAny_mono ((F _ inb (keep hns)).run callerA [] s H ⟨[.ref a], []⟩ [.ref a] [.ref a] _ _ still_caller hr env (bnd s (.ref a)) (.cons rfl .nil) h) fun r s' z => ?_
  rcases r with e | fl
  · exact False.elim z
  · cases fl with
    | ret u =>
      obtain ⟨v, H', os, bare, un, hok2, rv, q⟩ := z
      have q : v = .bl true := q
      subst q
      obtain rfl : u = Value.bool true := rv
      refine ⟨rfl, OldK.of_keep fun b o e => ?_, os, bare⟩
      cases hq : H b with
      | none => exact un.keep b o e hq (fun z => absurd (show b ∈ ([] : List Addr) from z) (by simp)) (by simp)
      | some u =>
        rcases hO b with z | ⟨ob, xs, z⟩
        · exact absurd (z.symm.trans hq) (by simp)
        · have e1 := (hok b _ z).1
          have e2 := (hok2 b _ (un.frzs b ob _ z)).1
          exact e2.trans (e1.symm.trans e)
    | next => exact False.elim z
    | brk => exact False.elim z
    | cont => exact False.elim z
theorem law_callG {k : Nat} {fa a : Addr} {fd : FuncData} {x : Str} {sp : Sp} {s : Shared} {us : List Value} {ns : List Int} (KX : K.In s.heap) (hns : s.heap.Ns mainGlobals mg) (hb : s.heap.Ns builtinsNs mb) (hbb : ∀ y : Str, y ≠ "__name__" → mb y = bootBuiltins y)
    (hlim : s.heap.NoLimit) (hg : s.gens = #[]) (ha : s.heap.get? a = some { cls := .type "list", data := .seq us.toArray }) (hi : IntsAre us ns) (hl : ns.length ≤ sizeLine) (hr : Room k callerA) (F : ∀ base : Heap, K.In base → base.Ns mainGlobals mg → FnG P w K mg base k fa fd [x] sp)
    (bnd : ∀ (z : Shared) (u : Value), BindsTo z fd ⟨[u], []⟩ [(x, u)]) (hsp : ∀ H : Hp, Only H → SqL K H a (ns.map V.int) → sp [.ref a] H (fun v _ => v = .bl true) E0) :
    codeAny (model P w) callerA (.call (.ref fa) ⟨[.ref a], []⟩) (fun r s' => r = .ok (.ret (.bool true)) ∧ OldK s.heap s'.heap ∧ s'.os = s.os ∧ AllBare s'.gens) s := by
  have rv := vals_ints hi
  have hlen := hi.length
  cases hk : K.lookup a with
  | some o =>
    obtain rfl : _ = o := Option.some.inj (ha.symm.trans (KX a o hk))
    have hS : SqL K (fun _ => none) a (ns.map V.int) := .inr ⟨_, us.toArray, _, hk, rfl, rfl, rfl, by rw [List.size_toArray, hlen]; exact hl, by simpa using rv⟩
    exact law_core KX hns hb hbb hlim hg ha hr F bnd (fun _ => none) (fun _ => .inl rfl) (hsp _ (fun _ => .inl rfl) hS) (fun b u z => nomatch (show (none : Option HO) = some u from z)) (fun b z => absurd rfl z) fun z => absurd rfl z
  | none =>
    let H1 : Hp := fun b => if b = a then some (.frz { cls := .type "list", data := .seq us.toArray } (.lst (ns.map V.int))) else none
    have at_a : H1 a = some (.frz { cls := .type "list", data := .seq us.toArray } (.lst (ns.map V.int))) := if_pos rfl
    have off : ∀ {b}, b ≠ a → H1 b = none := fun n => if_neg n
    have only : Only H1 := fun b => by
      by_cases z : b = a
      · exact .inr ⟨_, _, by rw [z]; exact at_a⟩
      · exact .inl (off z)
    refine law_core KX hns hb hbb hlim hg ha hr F bnd H1 only (hsp _ only (.inl (.inr ⟨_, at_a⟩))) (fun b u z => ?_) (fun b z => Classical.byContradiction fun n => z (off n)) fun _ => hk
    by_cases n : b = a
    · subst n
      obtain rfl := Option.some.inj (at_a.symm.trans z)
      exact ⟨ha, by rw [List.length_map]; exact hl, us, _, rv, ha⟩
    · rw [off n] at z
      cases z
end
/-- the goal that k_head leaves, from the law's promise -/
theorem walk_ofG {l : PySem.W.OpenLaw} {n k : Nat} {q : Program} {loose : List Str} {XP : (Str → Option Value) → Heap → Prop} {YP : World → Heap → Prop} {d : DefRec} {K : Params → PySem.W.Frag} {sp : World → Sp} {x : Str}
    (hn : l.most = some n) (hn2 : n ≤ sizeLine) (hdf : d.params.defaults = []) (hr : Room k callerA) (hY : ∀ (w : World) (h : Heap), YP w h → (K w.params).In h)
    (F : ∀ (w : World) (mg : Str → Option Value) (fa : Addr) (h : Heap), (K w.params).In h → h.Ns mainGlobals mg → mg d.name = some (.ref fa) → ∃ fd : FuncData, (∀ (z : Shared) (u : Value), BindsTo z fd ⟨[u], []⟩ [(x, u)]) ∧
      ∀ base : Heap, (K w.params).In base → base.Ns mainGlobals mg → FnG l.prog w (K w.params) mg base k fa fd [x] (sp w))
    (hsp : ∀ (w : World) (H : Hp) (a : Addr) (ns : List Int), ns.length ≤ n → Only H → SqL (K w.params) H a (ns.map V.int) → sp w [.ref a] H (fun v _ => v = .bl true) E0) : PySem.W.WalkO q loose XP YP l.row.toRowW d [] (fun f vs => PySem.call f vs) :=
  Att.attach_call hn hdf fun w s0 s1 mg mb fa o pm cd doc a vs ns G Y ho hd hcd hmg hobj hints hlen hg =>
    have KX := hY w _ Y
    let ⟨fd, hb, hF⟩ := F w mg fa _ KX G.T.g hmg
    law_callG KX G.T.g G.T.b G.T.builtins G.T.nolimit hg hobj hints (Nat.le_trans hlen hn2) hr hF hb fun H hO hS => hsp w H a ns hlen hO hS
end PV

set_option Elab.async false
set_option linter.all false
set_option maxRecDepth 100000
set_option maxHeartbeats 4000000
/-! PV5: expressions of the text as E, and that they are worth what evE says. -/
namespace PV
open PySem PySem.Spec PyProof.Rows L2

/-! ### what a text is turned into -/
/-- names by slot; defs known by name; constants of the module -/
structure Cfg where
  N : List Str
  tab : Str → Option Fn
  cst : Str → Option PyData
abbrev Sc := List (Str × NameKind)
def vis (sc : Sc) (x : Str) : Prop := sc.lookup x = some .local ∨ sc.lookup x = some .cell ∨ sc.lookup x = some .free
def loc (sc : Sc) (x : Str) : Prop := sc.lookup x = some .local ∨ sc.lookup x = some .cell
def gli (sc : Sc) (x : Str) : Prop := sc.lookup x = some .globalImplicit
def biName : BI → Option Str
  | .len => some "len" | .abs => some "abs" | .int => some "int" | .min => some "min" | .max => some "max" | .sum => some "sum" | .sorted => some "sorted" | .list => some "list" | .tuple => some "tuple" | .repr => some "repr"
  | _ => none
def isName : BI → Option Str
  | .isInt => some "int" | .isBool => some "bool" | .isList => some "list" | .isTuple => some "tuple" | .isStr => some "str"
  | _ => none
def builtinsUsed : List Str := ["len", "abs", "int", "min", "max", "sum", "sorted", "list", "tuple", "isinstance", "bool", "str", "range", "repr", "set"]
def noStar : Expr → Bool
  | .Starred _ _ => false
  | _ => true
def noSlice : Expr → Bool
  | .Slice _ _ _ _ => false
  | _ => true
def noSet : Expr → Bool
  | .Set _ _ _ => false
  | _ => true
def notCall : Expr → Bool
  | .Call _ _ _ _ => false
  | _ => true
def gslots : G → List Nat
  | .nm i => [i]
  | .two a b => gslots a ++ gslots b
  | .thr a b c => gslots a ++ gslots b ++ gslots c
  | .fou a b c d => gslots a ++ gslots b ++ gslots c ++ gslots d
/-- targets -/
inductive CG (c : Cfg) (sc : Sc) : Expr → G → Prop
  | nm {x pos i} : c.N[i]? = some x → loc sc x → CG c sc (.Name x pos) (.nm i)
  | two {a b k pos ga gb} : CG c sc a ga → CG c sc b gb → CG c sc (.Tuple [a, b] k pos) (.two ga gb)
  | thr {a b d k pos ga gb gd} : CG c sc a ga → CG c sc b gb → CG c sc d gd → CG c sc (.Tuple [a, b, d] k pos) (.thr ga gb gd)
  | fou {a b d e k pos ga gb gd ge} : CG c sc a ga → CG c sc b gb → CG c sc d gd → CG c sc e ge → CG c sc (.Tuple [a, b, d, e] k pos) (.fou ga gb gd ge)
mutual
inductive CE (c : Cfg) : Sc → Expr → E → Prop
  | name {sc x pos i} : c.N[i]? = some x → vis sc x → (x == ("__debug__" : Str)) = false → (x == ("__classdict__" : Str)) = false → CE c sc (.Name x pos) (.v i)
  | const {sc x pos d} : gli sc x → c.cst x = some d → (x == ("__debug__" : Str)) = false → CE c sc (.Name x pos) (.c d)
  | int {sc i j pos} : CE c sc (.Constant (.int i) j pos) (.c (.int i))
  | bool {sc b j pos} : CE c sc (.Constant (.bool b) j pos) (.c (.bool b))
  | none {sc j pos} : CE c sc (.Constant .none j pos) (.c .none)
  | str {sc x j pos} : CE c sc (.Constant (.str x) j pos) (.c (.str x))
  | bin {sc o a b pos x y} : CE c sc a x → CE c sc b y → CE c sc (.BinOp a (opOf o) b pos) (.bin o x y)
  | neg {sc a pos x} : CE c sc a x → CE c sc (.UnaryOp .USub a pos) (.neg x)
  | cmp {sc o a b pos x y} : CE c sc a x → CE c sc b y → behindInMarks (copOf o) b = false → CE c sc (.Compare a [copOf o] [b] pos) (.cmp o x y)
  | chain {sc o p a b d pos x y z} : CE c sc a x → CE c sc b y → CE c sc d z → behindInMarks (copOf p) d = false → CE c sc (.Compare a [copOf o, copOf p] [b, d] pos) (.chain o p x y z)
  | and {sc a b es pos x} : CA c sc (a :: b :: es) pos x → CE c sc (.BoolOp .And (a :: b :: es) pos) x
  | or {sc a b es pos x} : CO c sc (a :: b :: es) pos x → CE c sc (.BoolOp .Or (a :: b :: es) pos) x
  | not {sc a pos x} : CE c sc a x → CE c sc (.UnaryOp .Not a pos) (.not x)
  | ite {sc t a b pos z x y} : CE c sc t z → CE c sc a x → CE c sc b y → CE c sc (.IfExp t a b pos) (.ite z x y)
  | tup {sc es k pos xs} : CEs c sc es xs → CE c sc (.Tuple es k pos) (.tup xs)
  | lst {sc es pos xs} : CEs c sc es xs → CE c sc (.List es pos) (.lst xs)
  | ix {sc a b pos x y} : CE c sc a x → CE c sc b y → noSlice b = true → CE c sc (.Subscript a b pos) (.ix x y)
  | sl {sc a lo hi p pos x l h} : CE c sc a x → CP c sc lo l → CP c sc hi h → CE c sc (.Subscript a (.Slice lo hi none p) pos) (.sl x l h)
  | call {sc f p e es pos F xs} : gli sc f → c.tab f = some F → (f == ("__debug__" : Str)) = false → CEs c sc (e :: es) xs → CE c sc (.Call (.Name f p) (e :: es) [] pos) (.call F xs)
  | call0 {sc f p pos F} : gli sc f → c.tab f = some F → (f == ("__debug__" : Str)) = false → CE c sc (.Call (.Name f p) [] [] pos) (.call F .nil)
  | rev {sc e k p1 p2 p3 pos x} : CE c sc e x → CE c sc (.Subscript e (.Slice none none (some (.UnaryOp .USub (.Constant (.int 1) k p1) p2)) p3) pos) (.rev x)
  | rngl1 {sc p p2 e pos q x} : gli sc "list" → gli sc "range" → CE c sc e x → noStar e = true → CE c sc (.Call (.Name "list" p) [.Call (.Name "range" p2) [e] [] q] [] pos) (.rngl (.cons x .nil))
  | rngl2 {sc p p2 e f pos q x y} : gli sc "list" → gli sc "range" → CE c sc e x → noStar e = true → CE c sc f y → noStar f = true → CE c sc (.Call (.Name "list" p) [.Call (.Name "range" p2) [e, f] [] q] [] pos) (.rngl (.cons x (.cons y .nil)))
  | count {sc o e apos cpos x y} : CE c sc o x → CE c sc e y → (apos.endLine == cpos.line) = true → notCall o = true → noStar o = true → noStar e = true → CE c sc (.Call (.Attribute o "count" apos) [e] [] cpos) (.bi .count (.cons x (.cons y .nil)))
  | bi {sc b f p e es pos xs} : gli sc f → biName b = some f → CEs c sc (e :: es) xs → CE c sc (.Call (.Name f p) (e :: es) [] pos) (.bi b xs)
  | sset {sc p p2 e pos q x} : gli sc "sorted" → gli sc "set" → CE c sc e x → noStar e = true → CE c sc (.Call (.Name "sorted" p) [.Call (.Name "set" p2) [e] [] q] [] pos) (.bi .sortedSet (.cons x .nil))
  | is {sc b T p p2 e pos x} : gli sc "isinstance" → gli sc T → isName b = some T → CE c sc e x → noStar e = true → CE c sc (.Call (.Name "isinstance" p) [e, .Name T p2] [] pos) (.bi b (.cons x .nil))
  | index {sc o e apos cpos x y} : CE c sc o x → CE c sc e y → (apos.endLine == cpos.line) = true → notCall o = true → noStar o = true → noStar e = true → CE c sc (.Call (.Attribute o "index" apos) [e] [] cpos) (.bi .index (.cons x (.cons y .nil)))
  | comp {sc elt tg iter ifs scope pos own g it t x} : CI c sc iter it → CG c scope.names tg g → CC c scope.names ifs t → CE c scope.names elt x → blkC c.N ⟨.function, sc, false, false, []⟩ scope own = true →
      (gslots g).all (fun i => (own.map (·.2)).contains i) = true → noSet iter = true → CE c sc (.ListComp elt [⟨tg, iter, ifs, 0⟩] scope pos) (.comp (own.map (·.2)) g it t x)
  | comp2 {sc elt tg iter ifs tg1 iter1 ifs1 scope pos own g it t g1 it1 t1 x} {own1 : List Nat} : CI c sc iter it → CG c scope.names tg g → CC c scope.names ifs t → CI c scope.names iter1 it1 → CG c scope.names tg1 g1 → CC c scope.names ifs1 t1 → CE c scope.names elt x →
      blkC c.N ⟨.function, sc, false, false, []⟩ scope own = true → (gslots g).all (fun i => (own.map (·.2)).contains i) = true → (gslots g1).all (fun i => own1.contains i) = true → own1.all (fun i => (own.map (·.2)).contains i) = true →
      noSet iter = true → noSet iter1 = true → CE c sc (.ListComp elt [⟨tg, iter, ifs, 0⟩, ⟨tg1, iter1, ifs1, 0⟩] scope pos) (.comp2 (own.map (·.2)) g it t own1 g1 it1 t1 x)
/-- and, by the right -/
inductive CA (c : Cfg) : Sc → List Expr → Pos → E → Prop
  | one {sc a pos x} : CE c sc a x → CA c sc [a] pos x
  | cons {sc a b es pos x y} : CE c sc a x → CA c sc (b :: es) pos y → CA c sc (a :: b :: es) pos (.and x y)
inductive CO (c : Cfg) : Sc → List Expr → Pos → E → Prop
  | one {sc a pos x} : CE c sc a x → CO c sc [a] pos x
  | cons {sc a b es pos x y} : CE c sc a x → CO c sc (b :: es) pos y → CO c sc (a :: b :: es) pos (.or x y)
inductive CEs (c : Cfg) : Sc → List Expr → Es → Prop
  | nil {sc} : CEs c sc [] .nil
  | cons {sc e es x xs} : CE c sc e x → noStar e = true → CEs c sc es xs → CEs c sc (e :: es) (.cons x xs)
inductive CP (c : Cfg) : Sc → Option Expr → Oe → Prop
  | no {sc} : CP c sc none .no
  | yes {sc e x} : CE c sc e x → CP c sc (some e) (.yes x)
inductive CC (c : Cfg) : Sc → List Expr → Oe → Prop
  | no {sc} : CC c sc [] .no
  | yes {sc e x} : CE c sc e x → CC c sc [e] (.yes x)
inductive CI (c : Cfg) : Sc → Expr → I → Prop
  | rng {sc p e es pos xs} : gli sc "range" → CEs c sc (e :: es) xs → es.length ≤ 2 → CI c sc (.Call (.Name "range" p) (e :: es) [] pos) (.rng xs)
  | seq {sc e x} : CE c sc e x → CI c sc e (.seq x)
end
end PV

set_option Elab.async false
set_option linter.all false
set_option maxRecDepth 100000
set_option maxHeartbeats 4000000
/-! PV6: expressions are worth what evE says. -/
namespace PV
open PySem PySem.Spec PyProof.Rows L2

/-- what a def promises: the value of a plain function -/
def spF (K : PySem.W.Frag) (f : Fn) : Sp := fun vs H Q _ => ∃ (P : Addr → Prop) (ds : List PyData) (r : R), (∀ a, P a → ∃ xs, H a = some (.lst xs)) ∧ RpA K H P vs ds ∧ f ds = some r ∧ ∀ v H', Same H H' → RpR K H H' P false v r → Q v H'
structure Good (c : Cfg) (k : Nat) (sc : Sc) (X : Cx) : Prop where
  hN : X.N = c.N
  nd : c.N.Nodup
  calm : X.calm = true
  kind : X.env.scope.kind = .function
  lc : ∀ x, sc.lookup x = some .local → X.env.scope.names.lookup x = some .local
  cl : ∀ x, sc.lookup x = some .cell → X.env.scope.names.lookup x = some .cell ∧ X.fn x = true
  fr : ∀ x, sc.lookup x = some .free → X.env.scope.names.lookup x = some .cell ∨ X.env.scope.names.lookup x = some .free
  gl : ∀ x, sc.lookup x = some .globalImplicit → Gl X x
  still : Still X.A
  room : Room k X.A
  pass : PassesOwn (model X.prog X.w) X.A X.env X.xe
  fns : ∀ x f, c.tab x = some f → ∃ a fd ps, X.mg x = some (.ref a) ∧ PySem.W.keepIn X.K (.ref a) = true ∧ Binds X.K fd ps [] ∧ FnG X.prog X.w X.K X.mg X.base k a fd ps (spF X.K f)
  blt : ∀ x ∈ builtinsUsed, X.mg x = none
  csts : ∀ x d, c.cst x = some d → ∃ u v, X.mg x = some u ∧ RelV v u ∧ ∀ H O, Rp X.K H O v d

section
variable {X : Cx}
theorem PE.imp {e : Expr} {t t' : TE} (h : PE X e t) (i : ∀ σ H Q, t' σ H Q → t σ H Q) : PE X e t' := ⟨fun pins s σ H Q I q => h.run pins s σ H Q I (i σ H Q q)⟩
theorem PT.imp {e : Expr} {t t' : TT} (h : PT X e t) (i : ∀ σ H Q, t' σ H Q → t σ H Q) : PT X e t' := ⟨fun pins s σ H Q I q => h.run pins s σ H Q I (i σ H Q q)⟩
theorem PW.imp {e : Expr} {t t' : TT} (h : PW X e t) (i : ∀ σ H Q, t' σ H Q → t σ H Q) : PW X e t' := ⟨fun w pins s σ H Q I q => h.run w pins s σ H Q I (i σ H Q q)⟩
theorem PTs.imp {e : List Expr} {t t' : TT} (h : PTs X e t) (i : ∀ σ H Q, t' σ H Q → t σ H Q) : PTs X e t' := ⟨fun pins s σ H Q I q => h.run pins s σ H Q I (i σ H Q q)⟩
theorem PA.imp {e : List Expr} {t t' : TA} (h : PA X e t) (i : ∀ σ H Q, t' σ H Q → t σ H Q) : PA X e t' := ⟨fun p pins s σ H Q I q => h.run p pins s σ H Q I (i σ H Q q)⟩
theorem PO.imp {e : Option Expr} {t t' : TO} (h : PO X e t) (i : ∀ σ H Q, t' σ H Q → t σ H Q) : PO X e t' := ⟨fun pins s σ H Q I q => h.run pins s σ H Q I (i σ H Q q)⟩
theorem PI.imp {tg e : Expr} {t t' : TI} (h : PI X tg e t) (i : ∀ σ H Q, t' σ H Q → t σ H Q) : PI X tg e t' := ⟨fun pins s σ H Q I q => h.run pins s σ H Q I (i σ H Q q)⟩
theorem PG.imp {tg : Expr} {t t' : TG} (h : PG X tg t) (i : ∀ v σ H Q, t' v σ H Q → t v σ H Q) : PG X tg t' := ⟨fun pins s σ H v u Q I r q => h.run pins s σ H v u Q I r (i v σ H Q q)⟩
end

/-! ### readings -/
abbrev Set0 := Addr → Prop
/-- as Rp, or the items of a list that is no caller's -/
def RpBO (K : PySem.W.Frag) (H : Hp) (O P : Set0) (v : V) (d : PyData) : Prop :=
  Rp K H P v d ∨ ∃ a xs ds, v = .ref a ∧ d = .list ds ∧ H a = some (.lst xs) ∧ ¬ O a ∧ RpA K H P xs ds
def RpX (K : PySem.W.Frag) (H0 H : Hp) (O P : Set0) (b : Bool) (v : V) : R → Prop
  | (true, d) => ∃ a xs ds, v = .ref a ∧ d = .list ds ∧ H a = some (.lst xs) ∧ H0 a = none ∧ RpA K H (fun x => P x ∨ x = a) xs ds
  | (false, d) => if b then RpBO K H O P v d else Rp K H P v d
def tE (K : PySem.W.Frag) (x : E) (b : Bool) : TE := fun σ H Q => ∃ (O : Set0) (H0 : Hp) (A : Nat → Option Addr) (ρ : Sl) (r : R), Ok K O H0 A H σ ρ ∧ evE x b ρ = some r ∧ ∀ v H', Same H H' → RpX K H H' O (Ow O A) b v r → Q v H'
def tT (K : PySem.W.Frag) (x : E) : TT := fun σ H Q => ∃ (O : Set0) (H0 : Hp) (A : Nat → Option Addr) (ρ : Sl) (k : Bool), Ok K O H0 A H σ ρ ∧ evT x ρ = some k ∧ ∀ H', Same H H' → Q k H'
def tEs (K : PySem.W.Frag) (xs : Es) (b : Bool) : TA := fun σ H Q => ∃ (O : Set0) (H0 : Hp) (A : Nat → Option Addr) (ρ : Sl) (ds : List PyData), Ok K O H0 A H σ ρ ∧ evEs xs b ρ = some ds ∧
  ∀ vs H', Same H H' → (if b then RpBs K H' (Ow O A) vs ds else RpA K H' (Ow O A) vs ds) → Q vs H'
def tP (K : PySem.W.Frag) (x : Oe) : TO := fun σ H Q => ∃ (O : Set0) (H0 : Hp) (A : Nat → Option Addr) (ρ : Sl) (l : Option Int), Ok K O H0 A H σ ρ ∧ evP x ρ = some l ∧ ∀ H', Same H H' → Q l H'
def tC (K : PySem.W.Frag) (x : Oe) : TT := fun σ H Q => ∃ (O : Set0) (H0 : Hp) (A : Nat → Option Addr) (ρ : Sl) (k : Bool), Ok K O H0 A H σ ρ ∧ evC x ρ = some k ∧ ∀ H', Same H H' → Q k H'
/-- J walks the items ds, in every heap that bears it -/
def Wk (K : PySem.W.Frag) (J : It) (Kp : Hp → Prop) (H1 : Hp) (P : Set0) (ds : List PyData) : Prop :=
  ∀ H, Kp H → ∀ i : Nat, (∀ d, ds[i]? = some d → J.go i H ∧ ∀ x H', J.yld i H x H' → H' = H ∧ Rp K H1 P x d) ∧ (ds.length ≤ i → J.stop i H)
/-- what must stay while it is walked -/
def KpOf (b : Bool) (H1 : Hp) (O P : Set0) : Hp → Prop := fun H => ∀ a o, H1 a = some o → ¬ (if b then O a else P a) → H a = some o
def tI (K : PySem.W.Frag) (it : I) (b : Bool) : TI := fun σ H R => ∃ (O : Set0) (H0 : Hp) (A : Nat → Option Addr) (ρ : Sl) (ds : List PyData), Ok K O H0 A H σ ρ ∧ evI it b ρ = some ds ∧
  ∀ J H', Same H H' → ds.length ≤ sizeLine → Wk K J (KpOf b H' O (Ow O A)) H' (Ow O A) ds → R J H'
def tG (K : PySem.W.Frag) (g : G) : TG := fun v σ H Q => ∃ (O : Set0) (H0 : Hp) (A : Nat → Option Addr) (ρ ρ' : Sl) (d : PyData), Ok K O H0 A H σ ρ ∧ Rp K H (Ow O A) v d ∧ asg g d ρ = some ρ' ∧
  ∀ σ' , Ok K O H0 A H σ' ρ' → (∀ vs : List Nat, (∀ i ∈ gslots g, i ∈ vs) → wipe σ' vs = wipe σ vs) → Q σ' H

section
variable {K : PySem.W.Frag} {O P : Set0} {H0 H H1 H2 H' : Hp} {A : Nat → Option Addr} {σ : L2.St} {ρ : Sl}
theorem RpX.up {b : Bool} {v : V} {r : R} (s : Same H H1) (h : RpX K H1 H2 O P b v r) : RpX K H H2 O P b v r := by
  obtain ⟨fl, d⟩ := r
  cases fl with
  | false => exact h
  | true =>
    obtain ⟨a, xs, ds, e1, e2, e3, e4, h⟩ := h
    exact ⟨a, xs, ds, e1, e2, e3, s.free e4, h⟩
theorem RpR.up {b : Bool} {v : V} {r : R} (s : Same H H1) (h : RpR K H1 H2 P b v r) : RpR K H H2 P b v r := by
  obtain ⟨fl, d⟩ := r
  cases fl with
  | false => exact h
  | true =>
    obtain ⟨a, xs, ds, e1, e2, e3, e4, h⟩ := h
    exact ⟨a, xs, ds, e1, e2, e3, s.free e4, h⟩
theorem RpR.toX {b : Bool} {v : V} {r : R} (h : RpR K H H1 P false v r) : RpX K H H1 O P b v r := by
  obtain ⟨fl, d⟩ := r
  cases fl with
  | true => exact h
  | false =>
    cases b with
    | false => exact h
    | true => exact .inl h
theorem RpX.toR {v : V} {r : R} (h : RpX K H H1 O P false v r) : RpR K H H1 P false v r := by
  obtain ⟨fl, d⟩ := r
  cases fl with
  | true => exact h
  | false => exact h
theorem RpX.bor {b : Bool} {v : V} {r : R} (h : RpX K H H1 O P false v r) : RpX K H H1 O P b v r := h.toR.toX
theorem RpX.sh {b : Bool} {v : V} {d : PyData} (h : Rp K H1 P v d) : RpX K H H1 O P b v (false, d) := RpR.toX (b := b) (r := (false, d)) h
theorem RpBO.weak {v : V} {d : PyData} (h : RpBO K H O P v d) : RpB K H P v d := by
  rcases h with h | ⟨a, xs, ds, e1, e2, e3, e4, h⟩
  · exact .inl h
  · exact .inr ⟨a, xs, ds, e1, e2, e3, h⟩
theorem bind_some {α β : Type} {x : Option α} {f : α → Option β} {r : β} (h : Option.bind x f = some r) : ∃ a, x = some a ∧ f a = some r := by
  cases x with
  | none => cases h
  | some a => exact ⟨a, rfl, h⟩
theorem map_some {α β : Type} {x : Option α} {f : α → β} {r : β} (h : Option.map f x = some r) : ∃ a, x = some a ∧ f a = r := by
  cases x with
  | none => cases h
  | some a => exact ⟨a, rfl, Option.some.inj h⟩
/-- lists new, or lent, or shared, to be read -/
theorem rpBO_of {b : Bool} (ok : Ok K O H0 A H σ ρ) (s : Same H H') {v : V} {r : R} (h : RpX K H H' O (Ow O A) b v r) : RpBO K H' O (Ow O A) v r.2 := by
  obtain ⟨fl, d⟩ := r
  cases fl with
  | true =>
    obtain ⟨a, xs, ds, e1, e2, e3, e4, h⟩ := h
    exact .inr ⟨a, xs, ds, e1, e2, e3, fun z => ok.fresh e4 (.inl z), h.less fun x z => .inl z⟩
  | false =>
    cases b with
    | false => exact .inl h
    | true => exact h
theorem rpB_of {b : Bool} (ok : Ok K O H0 A H σ ρ) (s : Same H H') {v : V} {r : R} (h : RpX K H H' O (Ow O A) b v r) : RpB K H' (Ow O A) v r.2 := (rpBO_of ok s h).weak
/-- a slot's value -/
theorem slot_val (ok : Ok K O H0 A H σ ρ) {i : Nat} {b : Bool} {r : R} (e : evE (.v i) b ρ = some r) : ∃ v, σ[i]? = some (some v) ∧ RpX K H H O (Ow O A) b v r := by
  simp only [evE] at e
  cases q : ρ[i]? with
  | none => rw [q] at e; cases e
  | some o =>
    cases o with
    | none => rw [q] at e; cases e
    | some p =>
      obtain ⟨fl, d⟩ := p
      rw [q] at e
      obtain ⟨v, e1, h⟩ := ok.val i _ q
      refine ⟨v, e1, ?_⟩
      cases fl with
      | false =>
        cases e
        exact RpX.sh h
      | true =>
        cases b with
        | false => cases e
        | true =>
          cases e
          obtain ⟨a, xs, ds, q1, q2, q3, q4, h⟩ := h
          refine .inr ⟨a, xs, ds, q2, q3, q4, fun z => ?_, h⟩
          obtain ⟨ys, z⟩ := ok.odom a z
          rw [ok.new i a q1] at z; cases z
theorem KpOf.self {b : Bool} : KpOf b H O P H := fun a o e _ => e
theorem KpOf.same {b : Bool} (s : Same H H1) : KpOf b H O P H1 := fun a o e _ => s a o e
end

/-! ### targets -/
theorem wipe_set {i : Nat} {x : Option V} : ∀ {σ : L2.St} {vs : List Nat}, i ∈ vs → wipe (σ.set i x) vs = wipe σ vs
  | σ, [], h => absurd h (by simp)
  | σ, v :: vs, h => by
    show (wipe (σ.set i x) vs).set v none = (wipe σ vs).set v none
    by_cases hi : i ∈ vs
    · rw [wipe_set hi]
    · have e : i = v := by
        rcases List.mem_cons.mp h with e | e
        · exact e
        · exact absurd e hi
      subst e
      have : wipe (σ.set i x) vs = (wipe σ vs).set i x := by
        clear h
        induction vs with
        | nil => rfl
        | cons u us ih =>
          have h1 : u ≠ i := fun z => hi (by rw [z]; exact List.mem_cons_self)
          show (wipe (σ.set i x) us).set u none = ((wipe σ us).set u none).set i x
          rw [ih fun z => hi (List.mem_cons_of_mem _ z), List.set_comm _ _ h1.symm]
      rw [this, List.set_set]
section
variable {X : Cx} {c : Cfg} {k : Nat} {sc : Sc}
theorem Good.loc (g : Good c k sc X) {x : Str} (h : PV.loc sc x) : Loc X.env.scope x ∧ (X.fn x = true ∨ X.env.scope.names.lookup x = some .local) := by
  rcases h with h | h
  · exact ⟨.inl (g.lc x h), .inr (g.lc x h)⟩
  · exact ⟨.inr (g.cl x h).1, .inl (g.cl x h).2⟩
theorem Good.vis (g : Good c k sc X) {x : Str} (h : PV.vis sc x) : Vis X.env.scope x := by
  rcases h with h | h | h
  · exact .inl (g.lc x h)
  · exact .inr (.inl (g.cl x h).1)
  · exact .inr (g.fr x h)
theorem noStarG {e : Expr} {g : G} (h : CG c sc e g) : noStar e = true := by cases h <;> rfl
theorem assignEach_cons {e : Expr} {es : List Expr} {env : Env} (h : noStar e = true) : assignEach (e :: es) env = (false, assign e env) :: assignEach es env := by
  cases e <;> first | rfl | cases h
theorem pgs_cons' {e : Expr} {es : List Expr} {t : TG} {u : TGs} (h1 : PG X e t) (h2 : PGs X es u) (h : noStar e = true) : PGs X (e :: es) (gCons t u) :=
  pgs_cons h1 h2 (by rw [assignEach_cons h]; rfl)
theorem soundG (gd : Good c k sc X) : ∀ {e : Expr} {g : G}, CG c sc e g → PG X e (tG X.K g)
  | _, _, .nm (i := i) h1 h2 => by
    refine PG.imp (pg_name (i := i) (by rw [gd.hN]; exact gd.nd) (by rw [gd.hN]; exact h1) (gd.loc h2).1 (gd.loc h2).2) fun v σ H Q ⟨O, H0, A, ρ, ρ', d, ok, r, e, q⟩ => ?_
    cases e
    exact q _ (ok.set r) fun vs hv => wipe_set (hv i (by simp [gslots]))
  | _, _, .two (a := a) (b := b) (ga := ga) (gb := gb) ha hb => by
    have na := noStarG ha
    have nb := noStarG hb
    have e0 : assignEach [a, b] X.env = [(false, assign a X.env), (false, assign b X.env)] := by rw [assignEach_cons na, assignEach_cons nb]; rfl
    refine PG.imp (pg_tup (n := 2) gd.calm (pgs_cons' (soundG gd ha) (pgs_cons' (soundG gd hb) pgs_nil nb) na) (by rw [e0]; rfl) (by rw [e0]; rfl)) fun v σ H Q ⟨O, H0, A, ρ, ρ', d, ok, r, e, q⟩ => ?_
    cases d <;> try cases e
    rename_i ds
    match ds, r, e with
    | [x, y], r, e =>
      obtain ⟨ρ1, e1, e2⟩ := bind_some (show (asg ga x ρ).bind (fun ρ1 => asg gb y ρ1) = some ρ' from e)
      obtain ⟨p, xs, rfl, h1, h2⟩ := RpB.tuple (.inl r)
      cases h2 with
      | cons r1 t =>
        cases t with
        | cons r2 t =>
          cases t
          refine ⟨p, _, rfl, h1, rfl, _, _, rfl, ⟨O, H0, A, ρ, ρ1, x, ok, r1, e1, fun σ1 ok1 w1 => ⟨_, _, rfl, ⟨O, H0, A, ρ1, ρ', y, ok1, r2, e2, fun σ2 ok2 w2 => ⟨rfl, q σ2 ok2 fun vs hv => ?_⟩⟩⟩⟩⟩
          rw [w2 vs fun i hi => hv i (by simp [gslots, hi]), w1 vs fun i hi => hv i (by simp [gslots, hi])]
    | [], r, e => cases e
    | [x], r, e => cases e
    | x :: y :: z :: u, r, e => cases e
  | _, _, .thr (a := a) (b := b) (d := b2) (ga := ga) (gb := gb) (gd := gb2) ha hb hb2 => by
    have na := noStarG ha
    have nb := noStarG hb
    have nb2 := noStarG hb2
    have e0 : assignEach [a, b, b2] X.env = [(false, assign a X.env), (false, assign b X.env), (false, assign b2 X.env)] := by rw [assignEach_cons na, assignEach_cons nb, assignEach_cons nb2]; rfl
    refine PG.imp (pg_tup (n := 3) gd.calm (pgs_cons' (soundG gd ha) (pgs_cons' (soundG gd hb) (pgs_cons' (soundG gd hb2) pgs_nil nb2) nb) na) (by rw [e0]; rfl) (by rw [e0]; rfl)) fun v σ H Q ⟨O, H0, A, ρ, ρ', d, ok, r, e, q⟩ => ?_
    cases d <;> try cases e
    rename_i ds
    match ds, r, e with
    | [x, y, z], r, e =>
      obtain ⟨ρ1, e1, e2⟩ := bind_some (show (asg ga x ρ).bind (fun ρ1 => (asg gb y ρ1).bind fun ρ2 => asg gb2 z ρ2) = some ρ' from e)
      obtain ⟨ρ2, e2, e3⟩ := bind_some e2
      obtain ⟨p, xs, rfl, h1, h2⟩ := RpB.tuple (.inl r)
      cases h2 with
      | cons r1 t =>
        cases t with
        | cons r2 t =>
          cases t with
          | cons r3 t =>
            cases t
            refine ⟨p, _, rfl, h1, rfl, _, _, rfl, ⟨O, H0, A, ρ, ρ1, x, ok, r1, e1, fun σ1 ok1 w1 => ⟨_, _, rfl, ⟨O, H0, A, ρ1, ρ2, y, ok1, r2, e2, fun σ2 ok2 w2 => ⟨_, _, rfl, ⟨O, H0, A, ρ2, ρ', z, ok2, r3, e3, fun σ3 ok3 w3 => ⟨rfl, q σ3 ok3 fun vs hv => ?_⟩⟩⟩⟩⟩⟩⟩
            rw [w3 vs fun i hi => hv i (by simp [gslots, hi]), w2 vs fun i hi => hv i (by simp [gslots, hi]), w1 vs fun i hi => hv i (by simp [gslots, hi])]
    | [], r, e => cases e
    | [x], r, e => cases e
    | [x, y], r, e => cases e
    | x :: y :: z :: u :: w, r, e => cases e
  | _, _, .fou (a := a) (b := b) (d := b2) (e := b3) (ga := ga) (gb := gb) (gd := gb2) (ge := gb3) ha hb hb2 hb3 => by
    have na := noStarG ha
    have nb := noStarG hb
    have nb2 := noStarG hb2
    have nb3 := noStarG hb3
    have e0 : assignEach [a, b, b2, b3] X.env = [(false, assign a X.env), (false, assign b X.env), (false, assign b2 X.env), (false, assign b3 X.env)] := by rw [assignEach_cons na, assignEach_cons nb, assignEach_cons nb2, assignEach_cons nb3]; rfl
    refine PG.imp (pg_tup (n := 4) gd.calm (pgs_cons' (soundG gd ha) (pgs_cons' (soundG gd hb) (pgs_cons' (soundG gd hb2) (pgs_cons' (soundG gd hb3) pgs_nil nb3) nb2) nb) na) (by rw [e0]; rfl) (by rw [e0]; rfl)) fun v σ H Q ⟨O, H0, A, ρ, ρ', d, ok, r, e, q⟩ => ?_
    cases d <;> try cases e
    rename_i ds
    match ds, r, e with
    | [x, y, z, u], r, e =>
      obtain ⟨ρ1, e1, e2⟩ := bind_some (show (asg ga x ρ).bind (fun ρ1 => (asg gb y ρ1).bind fun ρ2 => (asg gb2 z ρ2).bind fun ρ3 => asg gb3 u ρ3) = some ρ' from e)
      obtain ⟨ρ2, e2, e3⟩ := bind_some e2
      obtain ⟨ρ3, e3, e4⟩ := bind_some e3
      obtain ⟨p, xs, rfl, h1, h2⟩ := RpB.tuple (.inl r)
      cases h2 with
      | cons r1 t =>
        cases t with
        | cons r2 t =>
          cases t with
          | cons r3 t =>
            cases t with
            | cons r4 t =>
              cases t
              refine ⟨p, _, rfl, h1, rfl, _, _, rfl, ⟨O, H0, A, ρ, ρ1, x, ok, r1, e1, fun σ1 ok1 w1 => ⟨_, _, rfl, ⟨O, H0, A, ρ1, ρ2, y, ok1, r2, e2, fun σ2 ok2 w2 => ⟨_, _, rfl, ⟨O, H0, A, ρ2, ρ3, z, ok2, r3, e3, fun σ3 ok3 w3 => ⟨_, _, rfl, ⟨O, H0, A, ρ3, ρ', u, ok3, r4, e4, fun σ4 ok4 w4 => ⟨rfl, q σ4 ok4 fun vs hv => ?_⟩⟩⟩⟩⟩⟩⟩⟩⟩
              rw [w4 vs fun i hi => hv i (by simp [gslots, hi]), w3 vs fun i hi => hv i (by simp [gslots, hi]), w2 vs fun i hi => hv i (by simp [gslots, hi]), w1 vs fun i hi => hv i (by simp [gslots, hi])]
    | [], r, e => cases e
    | [x], r, e => cases e
    | [x, y], r, e => cases e
    | [x, y, z], r, e => cases e
    | x :: y :: z :: u :: w :: w', r, e => cases e
/-- within a comprehension's block -/
theorem good_blk (gd : Good c k sc X) {scope : Scope} {own : List (Str × Nat)} (hb : blkC c.N ⟨.function, sc, false, false, []⟩ scope own = true) (s : Shared) (H : Hp) (C : Addr) (cl : List (Str × Addr)) (fp : List Addr) :
    Good c k scope.names (X.blk s H scope (compEnvC scope cl C X.env) fp) := by
  have ok := blkOk_by hb
  have hsc : (compEnvC scope cl C X.env).scope = relS scope X.env.scope := rfl
  refine ⟨gd.hN, gd.nd, gd.calm, ok.kind, fun x h => ?_, fun x h => ⟨?_, ?_⟩, fun x h => ?_, fun x h => ?_, gd.still, gd.room, PassesOwn.never, gd.fns, gd.blt, gd.csts⟩
  · exact lookup_relS_keep (sc := X.env.scope) (by decide) h
  · exact lookup_relS_keep (sc := X.env.scope) (by decide) h
  · show (scope.names.lookup x == some .cell) = true
    rw [h]; rfl
  · -- a free name is a cell of the block or free there
    have : ∃ k, (compEnvC scope cl C X.env).scope.names.lookup x = some k := by
      rw [hsc]
      have hm := PySem.mem_of_lookup h
      have : ∃ k, (x, k) ∈ (relS scope X.env.scope).names := by
        by_cases hc : (NameKind.free == NameKind.free && X.env.scope.kind == .function && X.env.scope.names.lookup x == some .cell) = true
        · exact ⟨.cell, List.mem_map.mpr ⟨(x, .free), hm, if_pos hc⟩⟩
        · exact ⟨.free, List.mem_map.mpr ⟨(x, .free), hm, if_neg hc⟩⟩
      obtain ⟨k, hk⟩ := this
      exact mem_lookup hk
    obtain ⟨k', hk'⟩ := this
    show (compEnvC scope cl C X.env).scope.names.lookup x = some .cell ∨ (compEnvC scope cl C X.env).scope.names.lookup x = some .free
    rw [hk']
    obtain ⟨k2, e1, e2⟩ := lookup_relS (sc := X.env.scope) (by rw [hsc] at hk'; exact hk')
    rw [h] at e1
    cases e1
    rcases e2 with e2 | ⟨_, e2⟩
    · exact .inr (by rw [e2])
    · exact .inl (by rw [e2])
  · exact lookup_relS_keep (sc := X.env.scope) (by decide) h
theorem blk_ok (gd : Good c k sc X) {scope : Scope} {own : List (Str × Nat)} (hb : blkC c.N ⟨.function, sc, false, false, []⟩ scope own = true) : BlkOk X.N X.env.scope scope own := by
  have ok := blkOk_by hb
  refine ⟨ok.kind, ok.uniq, by rw [gd.hN]; exact ok.ix, fun y hy e => ?_, by rw [gd.hN]; exact ok.own⟩
  rcases ok.free y hy e with h | h
  · exact .inl (gd.cl _ h).1
  · exact gd.fr _ h
end
end PV

set_option Elab.async false
set_option linter.all false
set_option maxRecDepth 100000
set_option maxHeartbeats 4000000
/-! PV7: soundness of expressions. -/
namespace PV
open PySem PySem.Spec PyProof.Rows L2

/-! ### small facts of the text -/
theorem starEach_cons {e : Expr} {es : List Expr} {env : Env} (h : noStar e = true) : starEach (e :: es) env = (false, eval e env) :: starEach es env := by
  cases e <;> first | rfl | cases h
theorem ces_star {c : Cfg} : ∀ {sc : Sc} {es : List Expr} {xs : Es}, CEs c sc es xs → ∀ (pos : Pos) (env : Env), (backTo pos (starEach es env)).any (·.1) = false
  | _, _, _, .nil, _, _ => rfl
  | _, _, _, .cons h n t, pos, env => by
    rw [starEach_cons n]
    show (false || (backTo pos (starEach _ env)).any (·.1)) = false
    rw [ces_star t]; rfl
theorem plain_ix {b : Expr} (h : noSlice b = true) : PlainIx b := fun o i => by
  cases b <;> first | rfl | cases h
theorem noset_of {iter : Expr} (h : noSet iter = true) (env : Env) (x : Value) : foldedSetIterable iter env x = pure x := by
  cases iter <;> first | rfl | cases h
theorem wipe_wipe {σ : L2.St} : ∀ {vs us : List Nat}, (∀ i ∈ us, i ∈ vs) → wipe (wipe σ us) vs = wipe σ vs
  | vs, [], _ => rfl
  | vs, u :: us, h => by
    show wipe ((wipe σ us).set u none) vs = wipe σ vs
    rw [wipe_set (h u List.mem_cons_self), wipe_wipe fun i hi => h i (List.mem_cons_of_mem _ hi)]
theorem boot_bi {b : BI} {f : Str} (h : biName b = some f) : f ∈ builtinsUsed ∧ (f ≠ "__name__") ∧ (f == ("__debug__" : Str)) = false := by
  cases b <;> cases h <;> exact ⟨by decide +kernel, by decide +kernel, by decide +kernel⟩
theorem boot_is {b : BI} {f : Str} (h : isName b = some f) : f ∈ builtinsUsed ∧ (f ≠ "__name__") ∧ (f == ("__debug__" : Str)) = false := by
  cases b <;> cases h <;> exact ⟨by decide +kernel, by decide +kernel, by decide +kernel⟩

section
variable {X : Cx}
def Both (X : Cx) (e : Expr) (x : E) : Prop := (∀ b, PE X e (tE X.K x b)) ∧ PT X e (tT X.K x)
theorem evT_inv {x : E} {ρ : Sl} {k : Bool} (h : evT x ρ = some k) : ∃ r : R, evE x true ρ = some r ∧ r.2 = .bool k := by
  obtain ⟨r, e, h⟩ := bind_some h
  refine ⟨r, e, ?_⟩
  split at h
  · rename_i k' e2; cases h; exact e2
  · cases h
theorem rpB_bool {K : PySem.W.Frag} {H : Hp} {P : Set0} {v : V} {r : R} {k : Bool} (h : RpB K H P v r.2) (e : r.2 = .bool k) : v = .bl k := by
  rw [e] at h; exact h.bool
theorem rpB_int {K : PySem.W.Frag} {H : Hp} {P : Set0} {v : V} {r : R} {k : Int} (h : RpB K H P v r.2) (e : r.2 = .int k) : v = .int k := by
  rw [e] at h; exact h.int
/-- a test that is a plain value -/
theorem both_plain {e : Expr} {x : E} (h : ∀ b, PE X e (tE X.K x b)) (hp : ∀ whole, isTrue e X.env whole = (do let v ← whole; standAt e.pos; holding [v] (truthy v))) : Both X e x := by
  refine ⟨h, PT.imp (pt_val (h true) hp) fun σ H Q ⟨O, H0, A, ρ, k, ok, ev, q⟩ => ?_⟩
  obtain ⟨r, e1, e2⟩ := evT_inv ev
  exact ⟨O, H0, A, ρ, r, ok, e1, fun v H' s h => ⟨k, rpB_bool (rpB_of ok s h) e2, q H' s⟩⟩
theorem rpX_bl {K : PySem.W.Frag} {H0 H : Hp} {O P : Set0} {b k : Bool} : RpX K H0 H O P b (.bl k) (false, .bool k) := RpX.sh (.bl k)

/-! ### one construct each, from its parts -/
variable {c : Cfg} {k : Nat} {sc : Sc}
theorem s_bin {o : BOp} {a b : Expr} {pos : Pos} {x y : E} (ha : Both X a x) (hb : Both X b y) (bb : Bool) : PE X (.BinOp a (opOf o) b pos) (tE X.K (.bin o x y) bb) := by
  refine PE.imp (pe_op (op_bin o) (ha.1 true) (hb.1 true)) fun σ H Q ⟨O, H0, A, ρ, r, ok, ev, q⟩ => ?_
  simp only [evE] at ev
  obtain ⟨r1, e1, ev⟩ := bind_some ev
  obtain ⟨r2, e2, ev⟩ := bind_some ev
  exact ⟨O, H0, A, ρ, r1, ok, e1, fun v1 H1 s1 h1 => ⟨O, H0, A, ρ, r2, ok.same s1, e2, fun v2 H2 s2 h2 => ⟨Ow O A, _, _, r, fun a z => ((ok.same s1).same s2).own_some z, (rpB_of ok s1 h1).same s2, rpB_of (ok.same s1) s2 h2, ev, fun v H' s3 h3 =>
    q v H' (s1.trans (s2.trans s3)) (RpX.up (s1.trans s2) h3.toX)⟩⟩⟩
theorem s_neg {a : Expr} {pos : Pos} {x : E} (ha : Both X a x) (bb : Bool) : PE X (.UnaryOp .USub a pos) (tE X.K (.neg x) bb) := by
  refine PE.imp (pe_un op_neg (ha.1 true)) fun σ H Q ⟨O, H0, A, ρ, r, ok, ev, q⟩ => ?_
  simp only [evE] at ev
  obtain ⟨r1, e1, ev⟩ := bind_some ev
  exact ⟨O, H0, A, ρ, r1, ok, e1, fun v1 H1 s1 h1 => ⟨Ow O A, _, r, rpB_of ok s1 h1, ev, fun v H' s3 h3 => q v H' (s1.trans s3) (RpX.up s1 h3.toX)⟩⟩
theorem s_cmp (hu : X.A.units + 64 < cLine) {o : COp} {a b : Expr} {pos : Pos} {x y : E} (ha : Both X a x) (hb : Both X b y) (hm : behindInMarks (copOf o) b = false) : Both X (.Compare a [copOf o] [b] pos) (.cmp o x y) := by
  refine ⟨fun bb => PE.imp (pe_cmpR (op_cmp hu o) (ha.1 true) (hb.1 true) hm) fun σ H Q ⟨O, H0, A, ρ, r, ok, ev, q⟩ => ?_,
    PT.imp (pt_cmpR (op_cmp hu o) (ha.1 true) (hb.1 true) hm) fun σ H Q ⟨O, H0, A, ρ, k, ok, ev, q⟩ => ?_⟩
  · simp only [evE] at ev
    obtain ⟨r1, e1, ev⟩ := bind_some ev
    obtain ⟨r2, e2, ev⟩ := bind_some ev
    obtain ⟨k, ev3, e3⟩ := map_some ev
    subst e3
    exact ⟨O, H0, A, ρ, r1, ok, e1, fun v1 H1 s1 h1 => ⟨O, H0, A, ρ, r2, ok.same s1, e2, fun v2 H2 s2 h2 => ⟨Ow O A, _, _, k, (rpB_of ok s1 h1).same s2, rpB_of (ok.same s1) s2 h2, ev3, q _ _ (s1.trans s2) rpX_bl⟩⟩⟩
  · obtain ⟨r, ev, e3⟩ := evT_inv ev
    simp only [evE] at ev
    obtain ⟨r1, e1, ev⟩ := bind_some ev
    obtain ⟨r2, e2, ev⟩ := bind_some ev
    obtain ⟨k', ev3, e4⟩ := map_some ev
    subst e4
    cases e3
    exact ⟨O, H0, A, ρ, r1, ok, e1, fun v1 H1 s1 h1 => ⟨O, H0, A, ρ, r2, ok.same s1, e2, fun v2 H2 s2 h2 => ⟨Ow O A, _, _, k, (rpB_of ok s1 h1).same s2, rpB_of (ok.same s1) s2 h2, ev3, k, rfl, q _ (s1.trans s2)⟩⟩⟩
theorem s_chain (hu : X.A.units + 64 < cLine) {o p : COp} {a b d : Expr} {pos : Pos} {x y z : E} (ha : Both X a x) (hb : Both X b y) (hd : Both X d z) (hm : behindInMarks (copOf p) d = false) : Both X (.Compare a [copOf o, copOf p] [b, d] pos) (.chain o p x y z) := by
  have hm' : lastMarks [copOf o, copOf p] [b, d] = false := hm
  refine ⟨fun bb => PE.imp (pe_chain (op_cmp hu o) (op_cmp hu p) (ha.1 true) (hb.1 true) (hd.1 true) hm') fun σ H Q ⟨O, H0, A, ρ, r, ok, ev, q⟩ => ?_,
    PT.imp (pt_chain (op_cmp hu o) (op_cmp hu p) (ha.1 true) (hb.1 true) (hd.1 true) hm') fun σ H Q ⟨O, H0, A, ρ, kk, ok, ev, q⟩ => ?_⟩
  · simp only [evE] at ev
    obtain ⟨r1, e1, ev⟩ := bind_some ev
    obtain ⟨r2, e2, ev⟩ := bind_some ev
    obtain ⟨k1, e3, ev⟩ := bind_some ev
    refine ⟨O, H0, A, ρ, r1, ok, e1, fun v1 H1 s1 h1 => ⟨O, H0, A, ρ, r2, ok.same s1, e2, fun v2 H2 s2 h2 => ⟨Ow O A, _, _, k1, (rpB_of ok s1 h1).same s2, rpB_of (ok.same s1) s2 h2, e3, k1, rfl, ?_⟩⟩⟩
    cases k1 with
    | false =>
      rw [if_neg Bool.false_ne_true]
      cases ev
      exact q _ _ (s1.trans s2) rpX_bl
    | true =>
      rw [if_pos rfl]
      obtain ⟨r3, e4, ev⟩ := bind_some ev
      obtain ⟨k2, e5, e6⟩ := map_some ev
      subst e6
      exact ⟨O, H0, A, ρ, r3, (ok.same s1).same s2, e4, fun v3 H3 s3 h3 => ⟨Ow O A, _, _, k2, (rpB_of (ok.same s1) s2 h2).same s3, rpB_of ((ok.same s1).same s2) s3 h3, e5, q _ _ (s1.trans (s2.trans s3)) rpX_bl⟩⟩
  · obtain ⟨r, ev, e9⟩ := evT_inv ev
    simp only [evE] at ev
    obtain ⟨r1, e1, ev⟩ := bind_some ev
    obtain ⟨r2, e2, ev⟩ := bind_some ev
    obtain ⟨k1, e3, ev⟩ := bind_some ev
    refine ⟨O, H0, A, ρ, r1, ok, e1, fun v1 H1 s1 h1 => ⟨O, H0, A, ρ, r2, ok.same s1, e2, fun v2 H2 s2 h2 => ⟨Ow O A, _, _, k1, (rpB_of ok s1 h1).same s2, rpB_of (ok.same s1) s2 h2, e3, k1, rfl, ?_⟩⟩⟩
    cases k1 with
    | false =>
      rw [if_neg Bool.false_ne_true]
      cases ev
      cases e9
      exact ⟨false, rfl, q _ (s1.trans s2)⟩
    | true =>
      rw [if_pos rfl]
      obtain ⟨r3, e4, ev⟩ := bind_some ev
      obtain ⟨k2, e5, e6⟩ := map_some ev
      subst e6
      cases e9
      exact ⟨O, H0, A, ρ, r3, (ok.same s1).same s2, e4, fun v3 H3 s3 h3 => ⟨Ow O A, _, _, kk, (rpB_of (ok.same s1) s2 h2).same s3, rpB_of ((ok.same s1).same s2) s3 h3, e5, kk, rfl, q _ (s1.trans (s2.trans s3))⟩⟩
theorem s_not {a : Expr} {pos : Pos} {x : E} (ha : Both X a x) : Both X (.UnaryOp .Not a pos) (.not x) := by
  refine ⟨fun bb => PE.imp (pe_not (ha.1 true)) fun σ H Q ⟨O, H0, A, ρ, r, ok, ev, q⟩ => ?_, PT.imp (pt_not ha.2) fun σ H Q ⟨O, H0, A, ρ, kk, ok, ev, q⟩ => ?_⟩
  · simp only [evE] at ev
    obtain ⟨r1, e1, ev⟩ := bind_some ev
    split at ev
    · rename_i k1 e2
      cases ev
      exact ⟨O, H0, A, ρ, r1, ok, e1, fun v1 H1 s1 h1 => ⟨k1, rpB_bool (rpB_of ok s1 h1) e2, q _ _ s1 rpX_bl⟩⟩
    · cases ev
  · obtain ⟨r, ev, e9⟩ := evT_inv ev
    simp only [evE] at ev
    obtain ⟨r1, e1, ev⟩ := bind_some ev
    split at ev
    · rename_i k1 e2
      cases ev
      cases e9
      refine ⟨O, H0, A, ρ, k1, ok, ?_, fun H1 s1 => q _ s1⟩
      unfold evT
      rw [e1]
      show (match r1.2 with | .bool k => some k | _ => none) = some k1
      rw [e2]
    · cases ev
theorem evT_of {x : E} {ρ : Sl} {r : R} {k : Bool} (e : evE x true ρ = some r) (e2 : r.2 = .bool k) : evT x ρ = some k := by
  unfold evT
  rw [e]
  show (match r.2 with | .bool k => some k | _ => none) = some k
  rw [e2]
theorem s_ite {t a b : Expr} {pos : Pos} {z x y : E} (ht : Both X t z) (ha : Both X a x) (hb : Both X b y) (bb : Bool) : PE X (.IfExp t a b pos) (tE X.K (.ite z x y) bb) := by
  refine PE.imp (pe_ifExp ht.2 (ha.1 bb) (hb.1 bb)) fun σ H Q ⟨O, H0, A, ρ, r, ok, ev, q⟩ => ?_
  simp only [evE] at ev
  obtain ⟨r1, e1, ev⟩ := bind_some ev
  split at ev
  · rename_i e2
    exact ⟨O, H0, A, ρ, true, ok, evT_of e1 e2, fun H1 s1 => by show tE X.K x bb σ H1 Q; exact ⟨O, H0, A, ρ, r, ok.same s1, ev, fun v H' s h => q v H' (s1.trans s) (h.up s1)⟩⟩
  · rename_i e2
    exact ⟨O, H0, A, ρ, false, ok, evT_of e1 e2, fun H1 s1 => by show tE X.K y bb σ H1 Q; exact ⟨O, H0, A, ρ, r, ok.same s1, ev, fun v H' s h => q v H' (s1.trans s) (h.up s1)⟩⟩
  · cases ev
theorem isTrue_ifExp {t a b : Expr} {pos : Pos} {env : Env} {whole : Sem Value} : isTrue (.IfExp t a b pos) env whole = (do if ← isTrue t env (eval t env) then isTrue a env (eval a env) else isTrue b env (eval b env)) := rfl
theorem s_iteT {t a b : Expr} {pos : Pos} {z x y : E} (ht : Both X t z) (ha : Both X a x) (hb : Both X b y) : PT X (.IfExp t a b pos) (tT X.K (.ite z x y)) := by
  refine ⟨fun pins s σ H Q I ⟨O, H0, A, ρ, kk, ok, ev, q⟩ => ?_⟩
  obtain ⟨r, ev, e9⟩ := evT_inv ev
  simp only [evE] at ev
  obtain ⟨r1, e1, ev⟩ := bind_some ev
  rw [isTrue_ifExp]
  split at ev
  · rename_i e2
    refine wpAny_bind (thn (ht.2.run pins s σ H (fun d H1 => d = true ∧ Same H H1) I ⟨O, H0, A, ρ, true, ok, evT_of e1 e2, fun H1 s1 => ⟨rfl, s1⟩⟩) fun d s1 ⟨H1, I1, e3, s1'⟩ => ?_)
    subst e3
    rw [if_pos rfl]
    exact ha.2.run pins s1 σ H1 Q I1 ⟨O, H0, A, ρ, kk, ok.same s1', evT_of ev e9, fun H2 s2 => q H2 (s1'.trans s2)⟩
  · rename_i e2
    refine wpAny_bind (thn (ht.2.run pins s σ H (fun d H1 => d = false ∧ Same H H1) I ⟨O, H0, A, ρ, false, ok, evT_of e1 e2, fun H1 s1 => ⟨rfl, s1⟩⟩) fun d s1 ⟨H1, I1, e3, s1'⟩ => ?_)
    subst e3
    rw [if_neg Bool.false_ne_true]
    exact hb.2.run pins s1 σ H1 Q I1 ⟨O, H0, A, ρ, kk, ok.same s1', evT_of ev e9, fun H2 s2 => q H2 (s1'.trans s2)⟩
  · cases ev
/-- displays -/
theorem s_tup {es : List Expr} {kk : Nat} {pos : Pos} {xs : Es} (h : ∀ b, PA X es (tEs X.K xs b)) (bb : Bool) : PE X (.Tuple es kk pos) (tE X.K (.tup xs) bb) := by
  refine PE.imp (pe_tup (h false)) fun σ H Q ⟨O, H0, A, ρ, r, ok, ev, q⟩ => ?_
  simp only [evE] at ev
  obtain ⟨ds, e1, ev⟩ := bind_some ev
  split at ev
  · rename_i hl
    cases ev
    refine ⟨O, H0, A, ρ, ds, ok, e1, fun vs H1 s1 hv => ?_⟩
    have hv : RpA X.K H1 (Ow O A) vs ds := hv
    refine ⟨by rw [hv.length]; exact lenOk_le hl, fun p hp => q _ _ (s1.trans (same_upd hp)) (RpX.sh ?_)⟩
    exact .tup (.inl ⟨.inl upd_same, (ok.same s1).fresh hp⟩) (hv.same (same_upd hp))
  · cases ev
theorem s_lst {es : List Expr} {pos : Pos} {xs : Es} (h : ∀ b, PA X es (tEs X.K xs b)) (bb : Bool) : PE X (.List es pos) (tE X.K (.lst xs) bb) := by
  refine PE.imp (pe_lst (h false)) fun σ H Q ⟨O, H0, A, ρ, r, ok, ev, q⟩ => ?_
  simp only [evE] at ev
  obtain ⟨ds, e1, ev⟩ := bind_some ev
  split at ev
  · rename_i hl
    cases ev
    refine ⟨O, H0, A, ρ, ds, ok, e1, fun vs H1 s1 hv => ?_⟩
    have hv : RpA X.K H1 (Ow O A) vs ds := hv
    refine ⟨by rw [hv.length]; exact lenOk_le hl, fun p hp => q _ _ (s1.trans (same_upd hp)) ⟨p, vs, ds, rfl, rfl, upd_same, s1.free hp, ?_⟩⟩
    exact RpA.keep (fun a o e _ => same_upd hp a o e) (fun a z => z.elim .inl fun e => .inr (by rw [e]; exact hp)) _ _ hv
  · cases ev
theorem s_ix {a b : Expr} {pos : Pos} {x y : E} (ha : Both X a x) (hb : Both X b y) (hs : noSlice b = true) (bb : Bool) : PE X (.Subscript a b pos) (tE X.K (.ix x y) bb) := by
  refine PE.imp (pe_ix ix_P (ha.1 true) (hb.1 true) (plain_ix hs)) fun σ H Q ⟨O, H0, A, ρ, r, ok, ev, q⟩ => ?_
  simp only [evE] at ev
  obtain ⟨r1, e1, ev⟩ := bind_some ev
  obtain ⟨r2, e2, ev⟩ := bind_some ev
  exact ⟨O, H0, A, ρ, r1, ok, e1, fun v1 H1 s1 h1 => ⟨O, H0, A, ρ, r2, ok.same s1, e2, fun v2 H2 s2 h2 => ⟨Ow O A, _, _, r, (rpB_of ok s1 h1).same s2, rpB_of (ok.same s1) s2 h2, ev, fun v H' s3 h3 =>
    q v H' (s1.trans (s2.trans s3)) (RpX.up (s1.trans s2) h3.toX)⟩⟩⟩
theorem s_po {lo : Option Expr} {l : Oe} (h : match lo, l with | none, .no => True | some e, .yes x => Both X e x | _, _ => False) : PO X lo (tP X.K l) := by
  match lo, l, h with
  | none, .no, _ =>
    refine PO.imp po_none fun σ H Q ⟨O, H0, A, ρ, r, ok, ev, q⟩ => ?_
    simp only [evP] at ev
    cases ev
    exact q _ (Same.refl H)
  | some e, .yes x, h =>
    refine PO.imp (po_some ((show Both X e x from h).1 true)) fun σ H Q ⟨O, H0, A, ρ, r, ok, ev, q⟩ => ?_
    simp only [evP] at ev
    obtain ⟨r1, e1, ev⟩ := bind_some ev
    split at ev
    · rename_i i e2
      cases ev
      exact ⟨O, H0, A, ρ, r1, ok, e1, fun v1 H1 s1 h1 => ⟨i, rpB_int (rpB_of ok s1 h1) e2, q _ s1⟩⟩
    · cases ev
theorem s_sl {a : Expr} {lo hi : Option Expr} {p pos : Pos} {x : E} {l h : Oe} (ha : Both X a x) (hl : PO X lo (tP X.K l)) (hh : PO X hi (tP X.K h)) (bb : Bool) : PE X (.Subscript a (.Slice lo hi none p) pos) (tE X.K (.sl x l h) bb) := by
  refine PE.imp (pe_slice sl_P (ha.1 true) hl hh) fun σ H Q ⟨O, H0, A, ρ, r, ok, ev, q⟩ => ?_
  simp only [evE] at ev
  obtain ⟨r1, e1, ev⟩ := bind_some ev
  obtain ⟨l1, e2, ev⟩ := bind_some ev
  obtain ⟨l2, e3, ev⟩ := bind_some ev
  exact ⟨O, H0, A, ρ, r1, ok, e1, fun v1 H1 s1 h1 => ⟨O, H0, A, ρ, l1, ok.same s1, e2, fun H2 s2 => ⟨O, H0, A, ρ, l2, (ok.same s1).same s2, e3, fun H3 s3 => ⟨Ow O A, _, r, fun a z => (((ok.same s1).same s2).same s3).own_some z, (rpB_of ok s1 h1).same (s2.trans s3), ev, fun v H' s4 h4 =>
    q v H' (s1.trans (s2.trans (s3.trans s4))) (RpX.up (s1.trans (s2.trans s3)) h4.toX)⟩⟩⟩⟩
/-- lists of arguments -/
theorem s_nil (b : Bool) : PA X [] (tEs X.K .nil b) := by
  refine PA.imp pa_nil fun σ H Q ⟨O, H0, A, ρ, ds, ok, ev, q⟩ => ?_
  simp only [evEs] at ev
  cases ev
  refine q [] H (Same.refl H) ?_
  cases b
  · exact .nil
  · exact .nil
theorem rpBs_same {K : PySem.W.Frag} {H H' : Hp} {P : Set0} {vs : List V} {ds : List PyData} (s : Same H H') (h : RpBs K H P vs ds) : RpBs K H' P vs ds := Paired.mapP h fun _ _ r => r.same s
theorem s_cons {e : Expr} {es : List Expr} {x : E} {xs : Es} (he : Both X e x) (n : noStar e = true) (hs : ∀ b, PA X es (tEs X.K xs b)) (b : Bool) : PA X (e :: es) (tEs X.K (.cons x xs) b) := by
  refine PA.imp (pa_cons (he.1 b) (hs b) (starEach_cons n)) fun σ H Q ⟨O, H0, A, ρ, ds, ok, ev, q⟩ => ?_
  simp only [evEs] at ev
  obtain ⟨r1, e1, ev⟩ := bind_some ev
  obtain ⟨ds2, e2, e3⟩ := map_some ev
  subst e3
  refine ⟨O, H0, A, ρ, r1, ok, e1, fun v1 H1 s1 h1 => ⟨O, H0, A, ρ, ds2, ok.same s1, e2, fun vs H2 s2 h2 => q _ H2 (s1.trans s2) ?_⟩⟩
  cases b with
  | false => exact .cons ((ok.down s1 h1.toR).same s2) h2
  | true => exact .cons ((rpB_of ok s1 h1).same s2) h2
/-- f(..) of the text's own -/
theorem rpBs_lend {K : PySem.W.Frag} {H : Hp} {P : Set0} : ∀ {vs : List V} {ds : List PyData}, RpBs K H P vs ds → RpA K H (fun _ => False) vs ds
  | _, _, .nil => .nil
  | _, _, .cons r t => .cons (by
      rcases r with r | ⟨a, xs, ds, e1, e2, e3, h⟩
      · exact r.less fun _ z => z.elim
      · subst e1 e2
        exact .lst (.inl e3) (fun z => z) (h.less fun _ z => z.elim)) (rpBs_lend t)
theorem s_call {f : Str} {F : Fn} {p : Pos} {e : Expr} {es : List Expr} {pos : Pos} {xs : Es} (gd : Good c k sc X) (hf : gli sc f) (ht : c.tab f = some F) (hd : (f == ("__debug__" : Str)) = false) (n : noStar e = true) (ns : (backTo pos (starEach es X.env)).any (·.1) = false)
    (hs : ∀ b, PA X (e :: es) (tEs X.K xs b)) (bb : Bool) : PE X (.Call (.Name f p) (e :: es) [] pos) (tE X.K (.call F xs) bb) := by
  obtain ⟨a, fd, ps, hm, hk, hb, hF⟩ := gd.fns f F ht
  have go : ∀ b, PE X (.Call (.Name f p) (e :: es) [] pos) (tCall (spF X.K F) [] E0 (tEs X.K xs b)) := fun b => pe_callG hF gd.still gd.room (gd.gl f hf) hm hk hb (hs b) hd (starEach_cons n) ns
  refine ⟨fun pins s σ H Q I ⟨O, H0, A, ρ, r, ok, ev, q⟩ => ?_⟩
  simp only [evE] at ev
  split at ev
  · obtain ⟨ds, e1, ev⟩ := bind_some ev
    obtain ⟨r', e2, ev⟩ := bind_some ev
    split at ev
    · rename_i hn
      cases ev
      refine (go true).run pins s σ H Q I ⟨O, H0, A, ρ, ds, ok, e1, fun vs H1 s1 hv => ?_⟩
      have hv : RpBs X.K H1 (Ow O A) vs ds := hv
      show spF X.K F (vs ++ []) H1 Q E0
      rw [List.append_nil]
      refine ⟨fun _ => False, ds, r, fun _ z => z.elim, rpBs_lend hv, e2, fun v H2 s2 h2 => q v H2 (s1.trans s2) (RpX.up s1 ?_)⟩
      have ok1 := ok.same s1
      have ok2 := ok1.same s2
      obtain ⟨fl, d⟩ := r
      cases fl with
      | false => exact RpX.sh (Rp.nolist (fun a z => ok2.own_lst z) d v hn h2)
      | true =>
        obtain ⟨p, zs, es', q1, q2, q3, q4, h3⟩ := h2
        have q2 : d = .list es' := q2
        subst q2
        refine ⟨p, zs, es', q1, rfl, q3, q4, RpA.nolist (fun a z => ?_) es' zs hn h3⟩
        rcases z with z | z
        · exact ok2.own_lst z
        · exact ⟨zs, by rw [z]; exact q3⟩
    · cases ev
  · obtain ⟨ds, e1, ev⟩ := bind_some ev
    refine (go false).run pins s σ H Q I ⟨O, H0, A, ρ, ds, ok, e1, fun vs H1 s1 hv => ?_⟩
    have hv : RpA X.K H1 (Ow O A) vs ds := hv
    show spF X.K F (vs ++ []) H1 Q E0
    rw [List.append_nil]
    exact ⟨Ow O A, ds, r, fun a z => (ok.same s1).own_lst z, hv, ev, fun v H2 s2 h2 => q v H2 (s1.trans s2) (RpX.up s1 h2.toX)⟩
theorem s_call0 {f : Str} {F : Fn} {p pos : Pos} (gd : Good c k sc X) (hf : gli sc f) (ht : c.tab f = some F) (hd : (f == ("__debug__" : Str)) = false) (bb : Bool) : PE X (.Call (.Name f p) [] [] pos) (tE X.K (.call F .nil) bb) := by
  obtain ⟨a, fd, ps, hm, hk, hb, hF⟩ := gd.fns f F ht
  refine ⟨fun pins s σ H Q I ⟨O, H0, A, ρ, r, ok, ev, q⟩ => ?_⟩
  have ev : F [] = some r := ev
  refine (pe_callG0 hF gd.still gd.room (gd.gl f hf) hm hk hb hd).run pins s σ H Q I ?_
  show spF X.K F ([] ++ []) H Q E0
  exact ⟨Ow O A, [], r, fun a z => ok.own_lst z, .nil, ev, fun v H2 s2 h2 => q v H2 s2 h2.toX⟩
/-- x[::-1] -/
theorem s_rev {a : Expr} {kk : Nat} {p1 p2 p3 pos : Pos} {x : E} (ha : Both X a x) (bb : Bool) : PE X (.Subscript a (.Slice none none (some (.UnaryOp .USub (.Constant (.int 1) kk p1) p2)) p3) pos) (tE X.K (.rev x) bb) := by
  refine PE.imp (pe_revB (ha.1 true)) fun σ H Q ⟨O, H0, A, ρ, r, ok, ev, q⟩ => ?_
  simp only [evE] at ev
  obtain ⟨r1, e1, ev⟩ := bind_some ev
  refine ⟨O, H0, A, ρ, r1, ok, e1, fun v1 H1 s1 h1 => ?_⟩
  have hb := rpB_of ok s1 h1
  have hP : ∀ a, Ow O A a → H1 a ≠ none := fun a z => (ok.same s1).own_some z
  obtain ⟨fl, d⟩ := r1
  cases d <;> try cases ev
  · rename_i ds
    obtain ⟨a, xs, rfl, hr, hx⟩ := hb.list
    exact ⟨a, xs, rfl, .inl ⟨.inl hr, fun p hp => Gives.new (Q := Q) hP (fun v H2 s2 h2 => q v H2 (s1.trans s2) (RpX.up s1 h2.toX)) hx.reverse p hp⟩⟩
  · rename_i ds
    obtain ⟨a, xs, rfl, hr, hx⟩ := hb.tuple
    exact ⟨a, xs, rfl, .inr ⟨hr, fun p hp => Gives.newT (Q := Q) hP (fun v H2 s2 h2 => q v H2 (s1.trans s2) (RpX.up s1 h2.toX)) hx.reverse p hp⟩⟩
/-- built-ins -/
theorem bi_imp {b : BI} {e : Expr} {xs : Es} (h : PE X e (tCB (rBI X.K b) (tEs X.K xs true))) (bb : Bool) : PE X e (tE X.K (.bi b xs) bb) := by
  refine PE.imp h fun σ H Q ⟨O, H0, A, ρ, r, ok, ev, q⟩ => ?_
  simp only [evE] at ev
  obtain ⟨ds, e1, ev⟩ := bind_some ev
  exact ⟨O, H0, A, ρ, ds, ok, e1, fun vs H1 s1 hv => ⟨Ow O A, ds, r, fun a z => (ok.same s1).own_some z, hv, ev, fun v H2 s2 h2 => q v H2 (s1.trans s2) (RpX.up s1 h2.toX)⟩⟩
theorem s_bi {b : BI} {f : Str} {p : Pos} {e : Expr} {es : List Expr} {pos : Pos} {xs : Es} (gd : Good c k sc X) (hf : gli sc f) (hb : biName b = some f) (n : noStar e = true) (ns : (backTo pos (starEach es X.env)).any (·.1) = false)
    (hs : ∀ b, PA X (e :: es) (tEs X.K xs b)) (bb : Bool) : PE X (.Call (.Name f p) (e :: es) [] pos) (tE X.K (.bi b xs) bb) := by
  obtain ⟨m1, m2, m3⟩ := boot_bi hb
  have hm := gd.blt f m1
  have hg := gd.gl f hf
  have hu := gd.room.units
  have hc := gd.calm
  have he : starEach (e :: es) X.env = (false, eval e X.env) :: starEach es X.env := starEach_cons n
  cases b <;> cases hb
  case len => exact bi_imp (pe_callB call_lenP hg hm PySem.boot_len (hs true) m2 m3 he ns) bb
  case abs => exact bi_imp (pe_callB call_absP hg hm PyProof.Rows.boot_abs (hs true) m2 m3 he ns) bb
  case int => exact bi_imp (pe_callTy call_intP hg hm (by decide +kernel) (hs true) m2 m3 he ns) bb
  case min => exact bi_imp (pe_callB (call_minP hc) hg hm PyProof.Rows.boot_min (hs true) m2 m3 he ns) bb
  case max => exact bi_imp (pe_callB (call_maxP hc) hg hm PyProof.Rows.boot_max (hs true) m2 m3 he ns) bb
  case sum => exact bi_imp (pe_callB (call_sumP hc) hg hm PyProof.Rows.boot_sum (hs true) m2 m3 he ns) bb
  case sorted => exact bi_imp (pe_callB (call_sortedP hu) hg hm (by decide +kernel) (hs true) m2 m3 he ns) bb
  case list => exact bi_imp (pe_callTy call_listP hg hm (by decide +kernel) (hs true) m2 m3 he ns) bb
  case tuple => exact bi_imp (pe_callTy call_tupleP hg hm (by decide +kernel) (hs true) m2 m3 he ns) bb
  case repr => exact bi_imp (pe_callB (call_reprP gd.still hu) hg hm PyProof.Rows.boot_repr (hs true) m2 m3 he ns) bb
theorem s_is {b : BI} {T : Str} {p p2 : Pos} {e : Expr} {pos : Pos} {x : E} (gd : Good c k sc X) (hf : gli sc "isinstance") (hT : gli sc T) (hb : isName b = some T) (he : Both X e x) (n : noStar e = true) (bb : Bool) :
    PE X (.Call (.Name "isinstance" p) [e, .Name T p2] [] pos) (tE X.K (.bi b (.cons x .nil)) bb) := by
  obtain ⟨m1, m2, m3⟩ := boot_is hb
  have hm := gd.blt T m1
  have hg := gd.gl T hT
  have hmi := gd.blt "isinstance" (by decide +kernel)
  have hgi := gd.gl _ hf
  have h0 : starEach [e, .Name T p2] X.env = (false, eval e X.env) :: starEach [.Name T p2] X.env := starEach_cons n
  have fin : ∀ {T' : String} {f : PyData → Bool}, bootBuiltins T = some (.type T') → CallR X (.builtin "isinstance") (rIs X.K T' f) → (∀ d, evBI b [d] = some (false, .bool (f d))) → PE X (.Call (.Name "isinstance" p) [e, .Name T p2] [] pos) (tE X.K (.bi b (.cons x .nil)) bb) := by
    intro T' f hv hc hd
    refine PE.imp (pe_callB hc hgi hmi PyProof.Rows.boot_isinstance (pa_cons (he.1 true) (pa_cons (pe_bltn (v := .ty T') hg hm hv rfl m2 m3) pa_nil) h0) (by decide +kernel) (by decide +kernel) h0 rfl) fun σ H Q ⟨O, H0, A, ρ, r, ok, ev, q⟩ => ?_
    simp only [evE, evEs] at ev
    obtain ⟨ds, e1, ev⟩ := bind_some ev
    obtain ⟨r1, e1', e2⟩ := bind_some e1
    cases e2
    rw [hd] at ev
    cases ev
    exact ⟨O, H0, A, ρ, r1, ok, e1', fun v1 H1 s1 h1 => ⟨Ow O A, v1, _, rfl, rpB_of ok s1 h1, q _ _ s1 rpX_bl⟩⟩
  cases b <;> cases hb
  case isInt => exact fin (by decide +kernel) call_isIntP fun _ => rfl
  case isBool => exact fin (by decide +kernel) call_isBoolP fun _ => rfl
  case isList => exact fin (by decide +kernel) call_isListP fun _ => rfl
  case isTuple => exact fin (by decide +kernel) call_isTupleP fun _ => rfl
  case isStr => exact fin (by decide +kernel) call_isStrP fun _ => rfl
/-- what is walked -/
theorem wk_list {K : PySem.W.Frag} {H1 : Hp} {a : Addr} {xs : List V} {ds : List PyData} {Kp : Hp → Prop} {P : Set0} (hr : ∀ H, Kp H → Rd H a (.lst xs)) (h2 : RpA K H1 P xs ds) : Wk K (Itl K a) Kp H1 P ds := by
  intro H hk i
  have h1 := hr H hk
  refine ⟨fun d hd => ?_, fun hi => ⟨xs, .inl h1, by rw [h2.length]; exact hi⟩⟩
  obtain ⟨v, hv, hr⟩ := h2.get hd
  refine ⟨⟨xs, v, .inl h1, hv⟩, fun x H' ⟨e, hy⟩ => ⟨e, ?_⟩⟩
  have := hy xs (.inl h1)
  rw [hv] at this
  cases this
  exact hr
theorem wk_tup {K : PySem.W.Frag} {H1 : Hp} {a : Addr} {xs : List V} {ds : List PyData} {Kp : Hp → Prop} {P : Set0} (hr : ∀ H, Kp H → SqT K H a xs) (h2 : RpA K H1 P xs ds) : Wk K (Itt K a) Kp H1 P ds := by
  intro H hk i
  have h1 := hr H hk
  refine ⟨fun d hd => ?_, fun hi => ⟨xs, h1, by rw [h2.length]; exact hi⟩⟩
  obtain ⟨v, hv, hr⟩ := h2.get hd
  refine ⟨⟨xs, v, h1, hv⟩, fun x H' ⟨e, hy⟩ => ⟨e, ?_⟩⟩
  have := hy xs h1
  rw [hv] at this
  cases this
  exact hr
theorem rng_get {lo : Int} {n i : Nat} {d : PyData} (h : (rngI lo n)[i]? = some d) : i < n ∧ d = .int (lo + i) := by
  unfold rngI at h
  rw [List.getElem?_map] at h
  by_cases hi : i < n
  · rw [List.getElem?_range hi] at h
    exact ⟨hi, (Option.some.inj h).symm⟩
  · rw [List.getElem?_eq_none (by simpa using hi)] at h; cases h
theorem rngS_get {lo st : Int} {n i : Nat} {d : PyData} (h : (rngS lo st n)[i]? = some d) : i < n ∧ d = .int (lo + i * st) := by
  unfold rngS at h
  rw [List.getElem?_map] at h
  by_cases hi : i < n
  · rw [List.getElem?_range hi] at h
    exact ⟨hi, (Option.some.inj h).symm⟩
  · rw [List.getElem?_eq_none (by simpa using hi)] at h; cases h
theorem wk_rng {K : PySem.W.Frag} {lo : Int} {n : Nat} {Kp : Hp → Prop} {H1 : Hp} {P : Set0} : Wk K (Itr lo n) Kp H1 P (rngI lo n) := by
  intro H hk i
  refine ⟨fun d hd => ?_, fun hi => show n ≤ i by unfold rngI at hi; simpa using hi⟩
  obtain ⟨hi, rfl⟩ := rng_get hd
  exact ⟨hi, fun x H' ⟨e, hx⟩ => ⟨e, by rw [hx]; exact .int _⟩⟩
theorem wk_rngS {K : PySem.W.Frag} {lo st : Int} {n : Nat} {Kp : Hp → Prop} {H1 : Hp} {P : Set0} : Wk K (Itc lo st n) Kp H1 P (rngS lo st n) := by
  intro H hk i
  refine ⟨fun d hd => ?_, fun hi => show n ≤ i by unfold rngS at hi; simpa using hi⟩
  obtain ⟨hi, rfl⟩ := rngS_get hd
  exact ⟨hi, fun x H' ⟨e, hx⟩ => ⟨e, by rw [hx]; exact .int _⟩⟩
/-- what is walked is a list or a tuple: PI of either kind -/
def iSeq (K : PySem.W.Frag) (tl : TE) : TI := fun σ H R => tl σ H fun x H1 => ∃ a, x = .ref a ∧ ((∃ xs, SqL K H1 a xs ∧ (xs.length ≤ sizeLine → R (Itl K a) H1)) ∨ (∃ xs, SqT K H1 a xs ∧ (xs.length ≤ sizeLine → R (Itt K a) H1)))
theorem pi_seq {tg l : Expr} {tl : TE} (hl : PE X l tl) : PI X tg l (iSeq X.K tl) := by
  refine ⟨fun pins s σ H R I h => ?_⟩
  refine thn (hl.run pins s σ H _ I h) fun v s1 ⟨x, H1, I1, r1, a, e, q⟩ => ?_
  subst e
  cases r1
  rcases q with ⟨xs, hq, q⟩ | ⟨xs, hq, q⟩
  · obtain ⟨its, rv, p, hz⟩ := I1.list hq
    refine wpAny_pyIter_list p.isList ?_
    refine ⟨s1.heap.objs.size, [s1.heap.objs.size], _, _, H1, rfl, I1.kept (t' := s1.toks) fun b o e => Heap.get?_push_of_some _ e, turn_list a _, ⟨_, Heap.get?_push_size _ rfl, rfl, rfl⟩, fun b hb => ?_, q hz⟩
    have e : b = s1.heap.objs.size := by simpa using hb
    subst e
    exact I1.fpOk (Nat.le_refl _) (I1.hok.fresh (Nat.le_refl _))
  · obtain ⟨its, rv, p, hz⟩ := I1.tuple hq
    refine wpAny_pyIter_tuple (show s1.heap.IsTuple a its.toArray from p) ?_
    refine ⟨s1.heap.objs.size, [s1.heap.objs.size], _, _, H1, rfl, I1.kept (t' := s1.toks) fun b o e => Heap.get?_push_of_some _ e, turn_tuple a _, ⟨_, Heap.get?_push_size _ rfl, rfl, rfl⟩, fun b hb => ?_, q hz⟩
    have e : b = s1.heap.objs.size := by simpa using hb
    subst e
    exact I1.fpOk (Nat.le_refl _) (I1.hok.fresh (Nat.le_refl _))
theorem s_seq {tg e : Expr} {x : E} (he : Both X e x) (b : Bool) : PI X tg e (tI X.K (.seq x) b) := by
  refine PI.imp (pi_seq (he.1 b)) fun σ H R ⟨O, H0, A, ρ, ds, ok, ev, q⟩ => ?_
  simp only [evI] at ev
  obtain ⟨r1, e1, ev2⟩ := bind_some ev
  refine ⟨O, H0, A, ρ, r1, ok, e1, fun v1 H1 s1 h1 => ?_⟩
  obtain ⟨fl, d⟩ := r1
  have ok1 := ok.same s1
  have hb : RpBO X.K H1 O (Ow O A) v1 d := rpBO_of ok s1 h1
  have shared : Rp X.K H1 (Ow O A) v1 d → itemsOf d = some ds → ∃ a, v1 = .ref a ∧ ((∃ xs, SqL X.K H1 a xs ∧ (xs.length ≤ sizeLine → R (Itl X.K a) H1)) ∨ (∃ xs, SqT X.K H1 a xs ∧ (xs.length ≤ sizeLine → R (Itt X.K a) H1))) := by
    intro hb ev
    have hkk : ∀ H', KpOf b H1 O (Ow O A) H' → ∀ a o, H1 a = some o → ¬ Ow O A a → H' a = some o := fun H' hk a o e n => by
      refine hk a o e fun z => n ?_
      cases b with
      | true => exact .inl z
      | false => exact z
    cases d <;> try cases ev
    · cases hb with
      | lst h2 h3 h4 => exact ⟨_, rfl, .inl ⟨_, .inl h2, fun hz => q _ H1 s1 (by rw [← h4.length]; exact hz) (wk_list (fun H' hk => rd_keep h2 (hkk H' hk) h3) h4)⟩⟩
    · cases hb with
      | @tup a xs _ h2 h4 =>
        have hq : SqT X.K H1 a xs := by
          rcases h2 with ⟨h2, _⟩ | h2
          · exact .inl h2
          · exact .inr h2
        refine ⟨_, rfl, .inr ⟨xs, hq, fun hz => q _ H1 s1 (by rw [← h4.length]; exact hz) (wk_tup (fun H' hk => ?_) h4)⟩⟩
        rcases h2 with ⟨h2, h3⟩ | h2
        · exact .inl (rd_keep h2 (hkk H' hk) h3)
        · exact .inr h2
  cases b with
  | false => exact shared (ok.down s1 h1.toR) ev2
  | true =>
    rcases hb with hb | ⟨a, xs, es, e1, e2, e3, e4, h⟩
    · exact shared hb ev2
    · have e2 : d = .list es := e2
      subst e1 e2
      cases ev2
      refine ⟨a, rfl, .inl ⟨_, .inl (.inl e3), fun hz => q _ H1 s1 (by rw [← h.length]; exact hz) (wk_list (fun H' hk => .inl (hk a _ e3 e4)) h)⟩⟩
end
end PV

set_option Elab.async false
set_option linter.all false
set_option maxRecDepth 100000
set_option maxHeartbeats 4000000
/-! PV8: ranges, comprehensions; all expressions. -/
namespace PV
open PySem PySem.Spec PyProof.Rows L2
section
variable {X : Cx} {c : Cfg} {k : Nat} {sc : Sc}
theorem evEs_cons {x : E} {xs : Es} {b : Bool} {ρ : Sl} {ds : List PyData} (h : evEs (.cons x xs) b ρ = some ds) : ∃ r es, evE x b ρ = some r ∧ evEs xs b ρ = some es ∧ ds = r.2 :: es := by
  simp only [evEs] at h
  obtain ⟨r, e1, h⟩ := bind_some h
  obtain ⟨es, e2, h⟩ := map_some h
  exact ⟨r, es, e1, e2, h.symm⟩
theorem evEs_nil {b : Bool} {ρ : Sl} {ds : List PyData} (h : evEs .nil b ρ = some ds) : ds = [] := by
  simp only [evEs] at h
  cases h; rfl
theorem smallI_of {i : Int} (h : smallI i = true) : -(2 ^ 62) ≤ i ∧ i < 2 ^ 62 := by
  unfold smallI at h
  rw [Bool.and_eq_true] at h
  have h1 := of_decide_eq_true h.1
  have h2 := of_decide_eq_true h.2
  constructor <;> omega
theorem evRng1 {d : PyData} {ds : List PyData} (h : evRng [d] = some ds) : ∃ i, d = .int i ∧ smallI i = true ∧ lenOk i.toNat = true ∧ ds = rngI 0 i.toNat := by
  cases d <;> try cases h
  rename_i i
  simp only [evRng] at h
  split at h
  · rename_i hc
    rw [Bool.and_eq_true] at hc
    cases h
    exact ⟨i, rfl, hc.1, hc.2, rfl⟩
  · cases h
theorem evRng2 {d e : PyData} {ds : List PyData} (h : evRng [d, e] = some ds) : ∃ i j, d = .int i ∧ e = .int j ∧ smallI i = true ∧ smallI j = true ∧ lenOk (j - i).toNat = true ∧ ds = rngI i (j - i).toNat := by
  cases d <;> cases e <;> try cases h
  rename_i i j
  simp only [evRng] at h
  split at h
  · rename_i hc
    rw [Bool.and_eq_true, Bool.and_eq_true] at hc
    cases h
    exact ⟨i, j, rfl, rfl, hc.1.1, hc.1.2, hc.2, rfl⟩
  · cases h
theorem evRng3 {d e f : PyData} {ds : List PyData} (h : evRng [d, e, f] = some ds) : ∃ i j st, d = .int i ∧ e = .int j ∧ f = .int st ∧ RgC i j st (rngN i j st) ∧ lenOk (rngN i j st) = true ∧ ds = rngS i st (rngN i j st) := by
  cases d <;> cases e <;> cases f <;> try cases h
  rename_i i j st
  simp only [evRng] at h
  split at h
  · rename_i hc
    simp only [Bool.and_eq_true] at hc
    obtain ⟨⟨⟨⟨c1, c2⟩, c3⟩, c4⟩, c5⟩ := hc
    cases h
    exact ⟨i, j, st, rfl, rfl, rfl, ⟨of_decide_eq_true c1, Nat.le_of_ble_eq_true c2, c3, of_decide_eq_true c5⟩, c4, rfl⟩
  · cases h
theorem rngI_len {lo : Int} {n : Nat} : (rngI lo n).length = n := by simp [rngI]
theorem rngS_len {lo st : Int} {n : Nat} : (rngS lo st n).length = n := by simp [rngS]
theorem s_rng {tg e : Expr} {es : List Expr} {xs : Es} {p pos : Pos} (gd : Good c k sc X) (hr : gli sc "range") (h : CEs c sc (e :: es) xs) (hl : es.length ≤ 2) (hs : ∀ b, PA X (e :: es) (tEs X.K xs b)) (b : Bool) : PI X tg (.Call (.Name "range" p) (e :: es) [] pos) (tI X.K (.rng xs) b) := by
  have hg := gd.gl _ hr
  have hm := gd.blt "range" (by decide +kernel)
  match es, hl, h, hs with
  | [], _, .cons _ n .nil, hs =>
    refine PI.imp (pi_range1 hg hm (hs true) (by rw [starEach_cons n]; rfl)) fun σ H R ⟨O, H0, A, ρ, ds, ok, ev, q⟩ => ?_
    simp only [evI] at ev
    obtain ⟨as, e1, ev2⟩ := bind_some ev
    refine ⟨O, H0, A, ρ, as, ok, e1, fun vs H1 s1 hv => ?_⟩
    have hv : RpBs X.K H1 (Ow O A) vs as := hv
    obtain ⟨r, fs, _, e3, rfl⟩ := evEs_cons e1
    cases evEs_nil e3
    obtain ⟨v, rfl, hv1⟩ := one hv
    obtain ⟨i, q1, q2, q3, rfl⟩ := evRng1 ev2
    obtain ⟨b1, b2⟩ := smallI_of q2
    exact ⟨i, by rw [rpB_int hv1 q1], b1, b2, q _ _ s1 (by rw [rngI_len]; exact lenOk_le q3) wk_rng⟩
  | [e2], _, .cons _ n (.cons _ n2 .nil), hs =>
    refine PI.imp (pi_range2 hg hm (hs true) (by rw [starEach_cons n, starEach_cons n2]; rfl) (by rw [starEach_cons n2]; rfl)) fun σ H R ⟨O, H0, A, ρ, ds, ok, ev, q⟩ => ?_
    simp only [evI] at ev
    obtain ⟨as, e1, ev2⟩ := bind_some ev
    refine ⟨O, H0, A, ρ, as, ok, e1, fun vs H1 s1 hv => ?_⟩
    have hv : RpBs X.K H1 (Ow O A) vs as := hv
    obtain ⟨r, fs, _, e3, rfl⟩ := evEs_cons e1
    obtain ⟨r2, fs, _, e4, rfl⟩ := evEs_cons e3
    cases evEs_nil e4
    obtain ⟨v, u, rfl, hv1, hu⟩ := two hv
    obtain ⟨i, j, q1, q2, q3, q4, q5, rfl⟩ := evRng2 ev2
    obtain ⟨b1, b2⟩ := smallI_of q3
    obtain ⟨b3, b4⟩ := smallI_of q4
    exact ⟨i, j, by rw [rpB_int hv1 q1, rpB_int hu q2], ⟨b1, b2, b3, b4⟩, q _ _ s1 (by rw [rngI_len]; exact lenOk_le q5) wk_rng⟩
  | [e2, e3], _, .cons _ n (.cons _ n2 (.cons _ n3 .nil)), hs =>
    refine PI.imp (pi_range3 hg hm (hs true) (by rw [starEach_cons n]) (by rw [starEach_cons n2, starEach_cons n3]; rfl)) fun σ H R ⟨O, H0, A, ρ, ds, ok, ev, q⟩ => ?_
    simp only [evI] at ev
    obtain ⟨as, e1, ev2⟩ := bind_some ev
    refine ⟨O, H0, A, ρ, as, ok, e1, fun vs H1 s1 hv => ?_⟩
    have hv : RpBs X.K H1 (Ow O A) vs as := hv
    obtain ⟨r, fs, _, e3, rfl⟩ := evEs_cons e1
    obtain ⟨r2, fs, _, e4, rfl⟩ := evEs_cons e3
    obtain ⟨r3, fs, _, e5, rfl⟩ := evEs_cons e4
    cases evEs_nil e5
    cases hv with
    | @cons v _ _ _ hv1 t =>
      obtain ⟨u, u2, rfl, hu, hu2⟩ := two t
      obtain ⟨i, j, st, q1, q2, q3, q4, q5, rfl⟩ := evRng3 ev2
      exact ⟨i, j, st, rngN i j st, by rw [rpB_int hv1 q1, rpB_int hu q2, rpB_int hu2 q3], q4, q _ _ s1 (by rw [rngS_len]; exact lenOk_le q5) wk_rngS⟩
  | _ :: _ :: _ :: _, hl, _, _ => exact absurd hl (by simp)
/-- a comprehension's test -/
theorem s_cno : PTs X [] (tC X.K .no) := by
  refine PTs.imp pts_nil fun σ H Q ⟨O, H0, A, ρ, kk, ok, ev, q⟩ => ?_
  simp only [evC] at ev
  cases ev
  exact q H (Same.refl H)
theorem s_cyes {e : Expr} {x : E} (h : Both X e x) : PTs X [e] (tC X.K (.yes x)) := by
  refine PTs.imp (pts_one h.2) fun σ H Q ⟨O, H0, A, ρ, kk, ok, ev, q⟩ => ?_
  simp only [evC] at ev
  exact ⟨O, H0, A, ρ, kk, ok, ev, q⟩
end
/-- a new list D stands by -/
theorem Ok.with {K : PySem.W.Frag} {O : Set0} {H0 H Hc : Hp} {A : Nat → Option Addr} {σ : L2.St} {ρ : Sl} {D : Addr} {acc : List V} (ok : Ok K O H0 A H σ ρ) (s : Same H Hc) (hn : H D = none) (hD : Hc D = some (.lst acc)) :
    Ok K (fun a => O a ∨ a = D) (L2.upd H0 D (.lst acc)) A Hc σ ρ := by
  have nA : ∀ i a, A i = some a → a ≠ D := fun i a e z => by
    obtain ⟨xs, q⟩ := ok.dom i a e
    rw [z, hn] at q; cases q
  have sub : ∀ a, Ow (fun a => O a ∨ a = D) A a → Ow O A a ∨ H a = none := fun a z => by
    rcases z with (z | z) | z
    · exact .inl (.inl z)
    · exact .inr (by rw [z]; exact hn)
    · exact .inl (.inr z)
  refine ⟨ok.len, fun a o e => ?_, ok.inj, fun i a e => ?_, fun i a e => ?_, fun a z => ?_, fun i r e => ?_⟩
  · by_cases ha : a = D
    · subst ha
      rw [upd_same] at e
      cases e; exact hD
    · rw [upd_ne ha] at e
      exact s _ _ (ok.grow _ _ e)
  · rw [upd_ne (nA i a e)]; exact ok.new i a e
  · obtain ⟨xs, q⟩ := ok.dom i a e
    exact ⟨xs, s _ _ q⟩
  · by_cases ha : a = D
    · exact ⟨acc, by rw [ha]; exact upd_same⟩
    · rcases z with z | z
      · obtain ⟨xs, q⟩ := ok.odom a z
        exact ⟨xs, by rw [upd_ne ha]; exact q⟩
      · exact absurd z ha
  · obtain ⟨v, e1, h⟩ := ok.val i r e
    refine ⟨v, e1, ?_⟩
    obtain ⟨fl, d⟩ := r
    cases fl with
    | false => exact Rp.keep (fun a o e _ => s a o e) sub _ _ h
    | true =>
      obtain ⟨a, xs, ds, q1, q2, q3, q4, h⟩ := h
      exact ⟨a, xs, ds, q1, q2, q3, s _ _ q4, RpA.keep (fun a o e _ => s a o e) sub _ _ h⟩
section
variable {X : Cx} {c : Cfg} {k : Nat} {sc : Sc}
theorem mem_of_all {l m : List Nat} (h : l.all (fun i => m.contains i) = true) : ∀ i ∈ l, i ∈ m := fun i hi => by
  have := List.all_eq_true.mp h i hi
  simpa using this
theorem compGo_cons {f : PyData → Option (Option PyData)} {d : PyData} {ds ys : List PyData} (h : compGo f (d :: ds) = some ys) : (f d = some none ∧ compGo f ds = some ys) ∨ ∃ y zs, f d = some (some y) ∧ compGo f ds = some zs ∧ ys = y :: zs := by
  unfold compGo at h
  split at h
  · cases h
  · rename_i e; exact .inl ⟨e, h⟩
  · rename_i y e
    split at h
    · cases h
    · rename_i zs e2
      cases h
      exact .inr ⟨y, zs, e, e2, rfl⟩
theorem compGo_len {f : PyData → Option (Option PyData)} : ∀ {ds ys : List PyData}, compGo f ds = some ys → ys.length ≤ ds.length
  | [], ys, h => by cases h; exact Nat.le_refl _
  | d :: ds, ys, h => by
    rcases compGo_cons h with ⟨_, h2⟩ | ⟨y, zs, _, h2, rfl⟩
    · exact Nat.le_succ_of_le (compGo_len h2)
    · exact Nat.succ_le_succ (compGo_len h2)
/-- one item more in the new list -/
theorem acc_more {K : PySem.W.Frag} {H : Hp} {P : Set0} {D : Addr} {acc : List V} {ys : List PyData} {v : V} {y : PyData} (hP : P D) (h : RpA K H P acc ys) (hv : Rp K H P v y) : RpA K (upd H D (.lst (acc ++ [v]))) P (acc ++ [v]) (ys ++ [y]) := by
  refine RpA.keep (fun a o e n => ?_) (fun _ z => .inl z) _ _ (h.append (.one hv))
  rw [upd_ne (fun z => n (by rw [z]; exact hP))]
  exact e
theorem rd_comp {K : PySem.W.Frag} {own : List (Str × Nat)} {g : G} {it : I} {t : Oe} {x : E} (hgs : (gslots g).all (fun i => (own.map (·.2)).contains i) = true) (bb : Bool) (σ : L2.St) (H : Hp) (Q : VK) (hq : tE K (.comp (own.map (·.2)) g it t x) bb σ H Q) :
    tLc (tI K it true) (tG K g) (tC K t) (tE K x false) (own.map (·.2)) σ H Q := by
  obtain ⟨O, H0, A, ρ, r, ok, ev, q⟩ := hq
  simp only [evE] at ev
  obtain ⟨ds, e1, ev⟩ := bind_some ev
  obtain ⟨ys, e2, e3⟩ := map_some ev
  subst e3
  generalize hF : (fun d => (asg g d (wipeR ρ (own.map (·.2)))).bind fun ρ2 => (evC t ρ2).bind fun k => match k with
      | false => some none
      | true => (evE x false ρ2).map fun r => some r.2) = F at e2
  refine ⟨O, H0, A, ρ, ds, ok, e1, fun J H1 s1 hz wk D hD => ?_⟩
  have hn : H D = none := s1.free hD
  refine ⟨fun i m Hc => m = ds.length - i ∧ i ≤ ds.length ∧ ∃ acc ys1 ys2, Hc D = some (.lst acc) ∧ RpA K Hc (fun a => Ow O A a ∨ a = D) acc ys1 ∧ Same H1 Hc ∧ compGo F (ds.drop i) = some ys2 ∧ ys = ys1 ++ ys2,
    ⟨ds.length, rfl, Nat.zero_le _, [], [], ys, upd_same, .nil, same_upd hD, e2, rfl⟩, ?_⟩
  rintro i m Hc ⟨rfl, hil, acc, ys1, ys2, hDc, hr, sm, e4, e5⟩
  by_cases hlt : i < ds.length
  · have hdr : ds.drop i = ds[i] :: ds.drop (i + 1) := List.drop_eq_getElem_cons hlt
    rw [hdr] at e4
    obtain ⟨go, yld⟩ := (wk Hc (KpOf.same sm) i).1 _ (List.getElem?_eq_getElem hlt)
    refine .inr ⟨go, fun H' => ∃ acc ys1 ys2, H' D = some (.lst acc) ∧ RpA K H' (fun a => Ow O A a ∨ a = D) acc ys1 ∧ Same H1 H' ∧ compGo F (ds.drop (i + 1)) = some ys2 ∧ ys = ys1 ++ ys2, fun H' h' => ⟨ds.length - (i + 1), by omega, rfl, hlt, h'⟩, fun v0 H' hy => ?_⟩
    obtain ⟨e6, hx⟩ := yld v0 H' hy
    subst e6
    have okD := ok.with (s1.trans sm) hn hDc
    have okW := okD.wipe (own.map (·.2))
    have hO : ∀ a, Ow (fun a => O a ∨ a = D) A a → Ow O A a ∨ H1 a = none := fun a z => by
      rcases z with (z | z) | z
      · exact .inl (.inl z)
      · exact .inr (by rw [z]; exact hD)
      · exact .inl (.inr z)
    have hx' : Rp K H' (Ow (fun a => O a ∨ a = D) A) v0 ds[i] := Rp.keep (fun a o e _ => sm a o e) hO _ _ hx
    have hFd : ∃ o, F ds[i] = some o ∧ ((o = none ∧ compGo F (ds.drop (i + 1)) = some ys2) ∨ ∃ y zs, o = some y ∧ compGo F (ds.drop (i + 1)) = some zs ∧ ys2 = y :: zs) := by
      rcases compGo_cons e4 with ⟨h1, h2⟩ | ⟨y, zs, h1, h2, h3⟩
      · exact ⟨none, h1, .inl ⟨rfl, h2⟩⟩
      · exact ⟨some y, h1, .inr ⟨y, zs, rfl, h2, h3⟩⟩
    obtain ⟨o, hFo, hoc⟩ := hFd
    rw [← hF] at hFo
    obtain ⟨ρ2, ea, ef⟩ := bind_some hFo
    obtain ⟨kk, ec, ef⟩ := bind_some ef
    refine ⟨_, _, A, _, ρ2, ds[i], okW, hx', ea, fun σ2 ok2 w2 => ⟨?_, ⟨_, _, A, ρ2, kk, ok2, ec, fun H3 s3 => ?_⟩⟩⟩
    · rw [w2 _ (mem_of_all hgs)]
      exact wipe_wipe fun _ h => h
    · cases kk with
      | false =>
        cases ef
        rcases hoc with ⟨_, h2⟩ | ⟨y, zs, h1, _⟩
        · exact ⟨acc, ys1, ys2, s3 _ _ hDc, hr.same s3, sm.trans s3, h2, e5⟩
        · cases h1
      | true =>
        obtain ⟨r', ee, er⟩ := map_some ef
        subst er
        rcases hoc with ⟨h1, _⟩ | ⟨y, zs, h1, h2, h3⟩
        · cases h1
        · cases h1
          subst h3
          refine ⟨_, _, A, ρ2, r', ok2.same s3, ee, fun v H4 s4 h4 => ⟨acc, s4 _ _ (s3 _ _ hDc), ?_, ?_⟩⟩
          · have l1 := compGo_len e2
            have l2 := hr.length
            rw [e5, List.length_append, List.length_cons] at l1
            omega
          · have hv : Rp K H4 (fun a => Ow O A a ∨ a = D) v r'.2 := ((ok2.same s3).down s4 h4.toR).less fun a z => by
              rcases z with (z | z) | z
              · exact .inl (.inl z)
              · exact .inr z
              · exact .inl (.inr z)
            refine ⟨acc ++ [v], ys1 ++ [r'.2], zs, upd_same, acc_more (.inr rfl) ((hr.same s3).same s4) hv, fun a o e => ?_, h2, by rw [e5, List.append_assoc]; rfl⟩
            rw [upd_ne (ne_of_none e hD)]
            exact s4 _ _ (s3 _ _ (sm _ _ e))
  · have hi' : i = ds.length := by omega
    subst hi'
    rw [List.drop_length] at e4
    cases e4
    rw [List.append_nil] at e5
    subst e5
    exact .inl ⟨(wk Hc (KpOf.same sm) _).2 (Nat.le_refl _), q _ Hc (s1.trans sm) ⟨D, acc, ys, rfl, rfl, hDc, hn, hr⟩⟩
theorem s_comp {elt tg iter : Expr} {ifs : List Expr} {scope : Scope} {pos : Pos} {own : List (Str × Nat)} {g : G} {it : I} {t : Oe} {x : E} (gd : Good c k sc X) (hi : ∀ b, PI X tg iter (tI X.K it b)) (hg : CG c scope.names tg g)
    (ht : ∀ {X' : Cx}, Good c k scope.names X' → PTs X' ifs (tC X'.K t)) (he : ∀ {X' : Cx}, Good c k scope.names X' → Both X' elt x)
    (hb : blkC c.N ⟨.function, sc, false, false, []⟩ scope own = true) (hgs : (gslots g).all (fun i => (own.map (·.2)).contains i) = true) (hs : noSet iter = true) (bb : Bool) :
    PE X (.ListComp elt [⟨tg, iter, ifs, 0⟩] scope pos) (tE X.K (.comp (own.map (·.2)) g it t x) bb) := by
  refine PE.imp (pe_lc (wi := tI X.K it true) (g := tG X.K g) (tt := tC X.K t) (te := tE X.K x false) gd.calm (by rw [gd.hN]; exact gd.nd) (hi true) (blk_ok gd hb) (fun s H C cl fp => soundG (good_blk gd hb s H C cl fp) hg) (fun s H C cl fp => ht (good_blk gd hb s H C cl fp)) (fun s H C cl fp => (he (good_blk gd hb s H C cl fp)).1 false)
    (noset_of hs X.env)) (rd_comp hgs bb)
theorem compGo2_cons {f : PyData → Option (List PyData)} {d : PyData} {ds ys : List PyData} (h : compGo2 f (d :: ds) = some ys) : ∃ xs zs, f d = some xs ∧ compGo2 f ds = some zs ∧ ys = xs ++ zs := by
  unfold compGo2 at h
  split at h
  · cases h
  · rename_i xs e
    split at h
    · cases h
    · rename_i zs e2
      cases h
      exact ⟨xs, zs, e, e2, rfl⟩
end
/-- the new list D has grown -/
theorem Ok.redo {K : PySem.W.Frag} {O : Set0} {H0 H Hc : Hp} {A : Nat → Option Addr} {σ : L2.St} {ρ : Sl} {D : Addr} {acc : List V} (ok : Ok K O H0 A H σ ρ) (hO : O D) (s : ∀ a o, a ≠ D → H a = some o → Hc a = some o) (hD : Hc D = some (.lst acc)) :
    Ok K O (L2.upd H0 D (.lst acc)) A Hc σ ρ := by
  obtain ⟨xs0, q0⟩ := ok.odom D hO
  have nA : ∀ i a, A i = some a → a ≠ D := fun i a e z => by
    have := ok.new i a e
    rw [z, q0] at this; cases this
  have k : ∀ a o, H a = some o → ¬ Ow O A a → Hc a = some o := fun a o e n => s a o (fun z => n (.inl (by rw [z]; exact hO))) e
  refine ⟨ok.len, fun a o e => ?_, ok.inj, fun i a e => ?_, fun i a e => ?_, fun a z => ?_, fun i r e => ?_⟩
  · by_cases ha : a = D
    · subst ha
      rw [upd_same] at e
      cases e; exact hD
    · rw [upd_ne ha] at e
      exact s _ _ ha (ok.grow _ _ e)
  · rw [upd_ne (nA i a e)]; exact ok.new i a e
  · obtain ⟨xs, q⟩ := ok.dom i a e
    exact ⟨xs, s _ _ (nA i a e) q⟩
  · by_cases ha : a = D
    · exact ⟨acc, by rw [ha]; exact upd_same⟩
    · obtain ⟨xs, q⟩ := ok.odom a z
      exact ⟨xs, by rw [upd_ne ha]; exact q⟩
  · obtain ⟨v, e1, h⟩ := ok.val i r e
    refine ⟨v, e1, ?_⟩
    obtain ⟨fl, d⟩ := r
    cases fl with
    | false => exact Rp.keep k (fun _ z => .inl z) _ _ h
    | true =>
      obtain ⟨a, xs, ds, q1, q2, q3, q4, h⟩ := h
      exact ⟨a, xs, ds, q1, q2, q3, s _ _ (nA i a q1) q4, RpA.keep k (fun _ z => .inl z) _ _ h⟩
section
variable {X : Cx} {c : Cfg} {k : Nat} {sc : Sc}
theorem rd_comp2 {K : PySem.W.Frag} {own : List (Str × Nat)} {own1 : List Nat} {g g1 : G} {it it1 : I} {t t1 : Oe} {x : E} (hgs : (gslots g).all (fun i => (own.map (·.2)).contains i) = true) (hgs1 : (gslots g1).all (fun i => own1.contains i) = true) (bb : Bool) (σ : L2.St) (H : Hp) (Q : VK) (hq : tE K (.comp2 (own.map (·.2)) g it t own1 g1 it1 t1 x) bb σ H Q) :
    tLc2 (tI K it true) (tG K g) (tC K t) (tI K it1 true) (tG K g1) (tC K t1) (tE K x false) (own.map (·.2)) own1 σ H Q := by
  obtain ⟨O, H0, A, ρ, r, ok, ev, q⟩ := hq
  simp only [evE] at ev
  obtain ⟨ds, e1, ev⟩ := bind_some ev
  obtain ⟨ys, e2, e3⟩ := bind_some ev
  split at e3
  case isFalse => cases e3
  rename_i hly
  have hly := lenOk_le hly
  cases e3
  generalize hF : (fun d => (asg g d (wipeR ρ (own.map (·.2)))).bind fun ρ2 => (evC t ρ2).bind fun k => match k with
      | false => some []
      | true => (evI it1 true ρ2).bind fun ds1 => compGo (fun d1 => (asg g1 d1 (wipeR ρ2 own1)).bind fun ρ3 => (evC t1 ρ3).bind fun k => match k with
        | false => some none
        | true => (evE x false ρ3).map fun r => some r.2) ds1) = F at e2
  refine ⟨O, H0, A, ρ, ds, ok, e1, fun J H1 s1 hz wk D hD => ?_⟩
  have hn : H D = none := s1.free hD
  refine ⟨fun i m Hc => m = ds.length - i ∧ i ≤ ds.length ∧ ∃ acc ys1 ys2, Hc D = some (.lst acc) ∧ RpA K Hc (fun a => Ow O A a ∨ a = D) acc ys1 ∧ Same H1 Hc ∧ compGo2 F (ds.drop i) = some ys2 ∧ ys = ys1 ++ ys2,
    ⟨ds.length, rfl, Nat.zero_le _, [], [], ys, upd_same, .nil, same_upd hD, e2, rfl⟩, ?_⟩
  rintro i m Hc ⟨rfl, hil, acc, ys1, ys2, hDc, hr, sm, e4, e5⟩
  by_cases hlt : i < ds.length
  · have hdr : ds.drop i = ds[i] :: ds.drop (i + 1) := List.drop_eq_getElem_cons hlt
    rw [hdr] at e4
    obtain ⟨go, yld⟩ := (wk Hc (KpOf.same sm) i).1 _ (List.getElem?_eq_getElem hlt)
    refine .inr ⟨go, fun H' => ∃ acc ys1 ys2, H' D = some (.lst acc) ∧ RpA K H' (fun a => Ow O A a ∨ a = D) acc ys1 ∧ Same H1 H' ∧ compGo2 F (ds.drop (i + 1)) = some ys2 ∧ ys = ys1 ++ ys2, fun H' h' => ⟨ds.length - (i + 1), by omega, rfl, hlt, h'⟩, fun v0 H' hy => ?_⟩
    obtain ⟨e6, hx⟩ := yld v0 H' hy
    subst e6
    have okD := ok.with (s1.trans sm) hn hDc
    have okW := okD.wipe (own.map (·.2))
    have hO : ∀ a, Ow (fun a => O a ∨ a = D) A a → Ow O A a ∨ H1 a = none := fun a z => by
      rcases z with (z | z) | z
      · exact .inl (.inl z)
      · exact .inr (by rw [z]; exact hD)
      · exact .inl (.inr z)
    have hx' : Rp K H' (Ow (fun a => O a ∨ a = D) A) v0 ds[i] := Rp.keep (fun a o e _ => sm a o e) hO _ _ hx
    obtain ⟨xs, zs, hFo, e7, e8⟩ := compGo2_cons e4
    subst e8
    rw [← hF] at hFo
    obtain ⟨ρ2, ea, ef⟩ := bind_some hFo
    obtain ⟨kk, ec, ef⟩ := bind_some ef
    refine ⟨_, _, A, _, ρ2, ds[i], okW, hx', ea, fun σ2 ok2 w2 => ⟨?_, ⟨_, _, A, ρ2, kk, ok2, ec, fun H3 s3 => ?_⟩⟩⟩
    · rw [w2 _ (mem_of_all hgs)]
      exact wipe_wipe fun _ h => h
    · cases kk with
      | false =>
        cases ef
        exact ⟨acc, ys1, zs, s3 _ _ hDc, hr.same s3, sm.trans s3, e7, e5⟩
      | true =>
        obtain ⟨ds1, ei, eg⟩ := bind_some ef
        have eg : compGo (fun d1 => (asg g1 d1 (wipeR ρ2 own1)).bind fun ρ3 => (evC t1 ρ3).bind fun k => match k with
          | false => some none
          | true => (evE x false ρ3).map fun r => some r.2) ds1 = some xs := eg
        generalize hF1 : (fun d1 => (asg g1 d1 (wipeR ρ2 own1)).bind fun ρ3 => (evC t1 ρ3).bind fun k => match k with
          | false => some none
          | true => (evE x false ρ3).map fun r => some r.2) = F1 at eg
        refine ⟨_, _, A, ρ2, ds1, ok2.same s3, ei, fun J1 H4 s4 hz1 wk1 => ?_⟩
        have hD4 : H4 D = some (.lst acc) := s4 _ _ (s3 _ _ hDc)
        refine ⟨fun j m Hc => m = ds1.length - j ∧ j ≤ ds1.length ∧ ∃ acc' yi yj, Hc D = some (.lst acc') ∧ RpA K Hc (fun a => Ow O A a ∨ a = D) acc' (ys1 ++ yi) ∧ (∀ a o, a ≠ D → H4 a = some o → Hc a = some o) ∧ compGo F1 (ds1.drop j) = some yj ∧ xs = yi ++ yj,
          ⟨ds1.length, rfl, Nat.zero_le _, acc, [], xs, hD4, by rw [List.append_nil]; exact (hr.same s3).same s4, fun _ _ _ e => e, eg, rfl⟩, ?_⟩
        rintro j m Hc ⟨rfl, hjl, acc', yi, yj, hDc', hr', sm', e4', e5'⟩
        have sm1 : Same H1 Hc := fun a o e => sm' _ _ (ne_of_none e hD) (s4 _ _ (s3 _ _ (sm _ _ e)))
        have hkp : KpOf true H4 (fun a => O a ∨ a = D) (Ow (fun a => O a ∨ a = D) A) Hc := fun a o e n => sm' a o (fun z => n (.inr z)) e
        by_cases hlt' : j < ds1.length
        · have hdr : ds1.drop j = ds1[j] :: ds1.drop (j + 1) := List.drop_eq_getElem_cons hlt'
          rw [hdr] at e4'
          obtain ⟨go', yld'⟩ := (wk1 Hc hkp j).1 _ (List.getElem?_eq_getElem hlt')
          refine .inr ⟨go', fun H' => ∃ acc' yi yj, H' D = some (.lst acc') ∧ RpA K H' (fun a => Ow O A a ∨ a = D) acc' (ys1 ++ yi) ∧ (∀ a o, a ≠ D → H4 a = some o → H' a = some o) ∧ compGo F1 (ds1.drop (j + 1)) = some yj ∧ xs = yi ++ yj, fun H' h' => ⟨ds1.length - (j + 1), by omega, rfl, hlt', h'⟩, fun v1 H' hy' => ?_⟩
          obtain ⟨e6', hx1⟩ := yld' v1 H' hy'
          subst e6'
          have okR := ((ok2.same s3).same s4).redo (.inr rfl) sm' hDc'
          have okW1 := okR.wipe own1
          have hx1' : Rp K H' (Ow (fun a => O a ∨ a = D) A) v1 ds1[j] := Rp.keep (fun a o e n => sm' a o (fun z => n (.inl (.inr z))) e) (fun _ z => .inl z) _ _ hx1
          have hFd : ∃ o, F1 ds1[j] = some o ∧ ((o = none ∧ compGo F1 (ds1.drop (j + 1)) = some yj) ∨ ∃ y zs, o = some y ∧ compGo F1 (ds1.drop (j + 1)) = some zs ∧ yj = y :: zs) := by
            rcases compGo_cons e4' with ⟨h1, h2⟩ | ⟨y, zs, h1, h2, h3⟩
            · exact ⟨none, h1, .inl ⟨rfl, h2⟩⟩
            · exact ⟨some y, h1, .inr ⟨y, zs, rfl, h2, h3⟩⟩
          obtain ⟨o, hFo1, hoc⟩ := hFd
          rw [← hF1] at hFo1
          obtain ⟨ρ3, ea1, ef1⟩ := bind_some hFo1
          obtain ⟨kk1, ec1, ef1⟩ := bind_some ef1
          refine ⟨_, _, A, _, ρ3, ds1[j], okW1, hx1', ea1, fun σ3 ok3 w3 => ⟨?_, ⟨_, _, A, ρ3, kk1, ok3, ec1, fun H6 s6 => ?_⟩⟩⟩
          · rw [w3 _ (mem_of_all hgs1)]
            exact wipe_wipe fun _ h => h
          · cases kk1 with
            | false =>
              cases ef1
              rcases hoc with ⟨_, h2⟩ | ⟨y, zs', h1, _⟩
              · exact ⟨acc', yi, yj, s6 _ _ hDc', hr'.same s6, fun a o n e => s6 _ _ (sm' a o n e), h2, e5'⟩
              · cases h1
            | true =>
              obtain ⟨r', ee, er⟩ := map_some ef1
              subst er
              rcases hoc with ⟨h1, _⟩ | ⟨y, zs', h1, h2, h3⟩
              · cases h1
              · cases h1
                subst h3
                refine ⟨_, _, A, ρ3, r', ok3.same s6, ee, fun v H7 s7 h7 => ⟨acc', s7 _ _ (s6 _ _ hDc'), ?_, ?_⟩⟩
                · have l2 := hr'.length
                  rw [e5, e5', List.length_append, List.length_append, List.length_append, List.length_cons] at hly
                  rw [List.length_append] at l2
                  omega
                · have hv : Rp K H7 (fun a => Ow O A a ∨ a = D) v r'.2 := ((ok3.same s6).down s7 h7.toR).less fun a z => by
                    rcases z with (z | z) | z
                    · exact .inl (.inl z)
                    · exact .inr z
                    · exact .inl (.inr z)
                  refine ⟨acc' ++ [v], yi ++ [r'.2], zs', upd_same, ?_, fun a o n e => ?_, h2, by rw [e5', List.append_assoc]; rfl⟩
                  · rw [← List.append_assoc]
                    exact acc_more (.inr rfl) ((hr'.same s6).same s7) hv
                  · rw [upd_ne n]
                    exact s7 _ _ (s6 _ _ (sm' a o n e))
        · have hj' : j = ds1.length := by omega
          subst hj'
          rw [List.drop_length] at e4'
          cases e4'
          rw [List.append_nil] at e5'
          subst e5'
          exact .inl ⟨(wk1 Hc hkp _).2 (Nat.le_refl _), acc', ys1 ++ xs, zs, hDc', hr', sm1, e7, by rw [e5, List.append_assoc]⟩
  · have hi' : i = ds.length := by omega
    subst hi'
    rw [List.drop_length] at e4
    cases e4
    rw [List.append_nil] at e5
    subst e5
    exact .inl ⟨(wk Hc (KpOf.same sm) _).2 (Nat.le_refl _), q _ Hc (s1.trans sm) ⟨D, acc, ys, rfl, rfl, hDc, hn, hr⟩⟩
theorem s_comp2 {elt tg iter tg1 iter1 : Expr} {ifs ifs1 : List Expr} {scope : Scope} {pos : Pos} {own : List (Str × Nat)} {own1 : List Nat} {g g1 : G} {it it1 : I} {t t1 : Oe} {x : E} (gd : Good c k sc X) (hi : ∀ b, PI X tg iter (tI X.K it b)) (hg : CG c scope.names tg g)
    (ht : ∀ {X' : Cx}, Good c k scope.names X' → PTs X' ifs (tC X'.K t)) (hi1 : ∀ {X' : Cx}, Good c k scope.names X' → ∀ b, PI X' tg1 iter1 (tI X'.K it1 b)) (hg1 : CG c scope.names tg1 g1) (ht1 : ∀ {X' : Cx}, Good c k scope.names X' → PTs X' ifs1 (tC X'.K t1))
    (he : ∀ {X' : Cx}, Good c k scope.names X' → Both X' elt x)
    (hb : blkC c.N ⟨.function, sc, false, false, []⟩ scope own = true) (hgs : (gslots g).all (fun i => (own.map (·.2)).contains i) = true) (hgs1 : (gslots g1).all (fun i => own1.contains i) = true) (ho1 : own1.all (fun i => (own.map (·.2)).contains i) = true)
    (hs : noSet iter = true) (hs1 : noSet iter1 = true) (bb : Bool) :
    PE X (.ListComp elt [⟨tg, iter, ifs, 0⟩, ⟨tg1, iter1, ifs1, 0⟩] scope pos) (tE X.K (.comp2 (own.map (·.2)) g it t own1 g1 it1 t1 x) bb) := by
  refine PE.imp (pe_lc2 (wi := tI X.K it true) (g := tG X.K g) (tt := tC X.K t) (wi1 := tI X.K it1 true) (g1 := tG X.K g1) (tt1 := tC X.K t1) (te := tE X.K x false) (vs1 := own1) gd.calm (by rw [gd.hN]; exact gd.nd) (hi true) (blk_ok gd hb) (mem_of_all ho1)
    (fun s H C cl fp => soundG (good_blk gd hb s H C cl fp) hg) (fun s H C cl fp => ht (good_blk gd hb s H C cl fp)) (fun s H C cl fp => hi1 (good_blk gd hb s H C cl fp) true) (fun s H C cl fp => soundG (good_blk gd hb s H C cl fp) hg1) (fun s H C cl fp => ht1 (good_blk gd hb s H C cl fp))
    (fun s H C cl fp => (he (good_blk gd hb s H C cl fp)).1 false) (noset_of hs X.env) (fun env => noset_of hs1 env)) (rd_comp2 hgs hgs1 bb)
end
end PV

set_option Elab.async false
set_option linter.all false
set_option maxRecDepth 100000
set_option maxHeartbeats 4000000
/-! PV9: all expressions. -/
namespace PV
open PySem PySem.Spec PyProof.Rows L2
section
variable {c : Cfg} {k : Nat}
theorem attr_plain {o : Expr} {f : Str} {env : Env} (h : noStar o = true) (hc : notCall o = true) : attributeBase o f env (eval o env) = eval o env := by
  cases o <;> first | rfl | cases hc
/-- x.index(y) -/
theorem s_index {X : Cx} {sc : Sc} {o e : Expr} {apos cpos : Pos} {x y : E} (gd : Good c k sc X) (ho : Both X o x) (he : Both X e y) (hl : (apos.endLine == cpos.line) = true) (hc : notCall o = true) (n : noStar o = true) (ne : noStar e = true) (bb : Bool) :
    PE X (.Call (.Attribute o "index" apos) [e] [] cpos) (tE X.K (.bi .index (.cons x (.cons y .nil))) bb) := by
  have hu : X.A.units + 65 < cLine := by have := gd.room.un; omega
  have h1 : starEach [e] X.env = (false, eval e X.env) :: starEach [] X.env := starEach_cons ne
  refine PE.imp (pe_bm PySem.F.plainAttrs_list PySem.F.slot_list_index PySem.F.type_list_index (mt_indexP hu) (ho.1 true) (pa_cons (he.1 true) pa_nil h1) (attr_plain n hc) (by rw [h1]; rfl) hl h1 rfl) fun σ H Q ⟨O, H0, A, ρ, r, ok, ev, q⟩ => ?_
  simp only [evE] at ev
  obtain ⟨ds, e1, ev2⟩ := bind_some ev
  obtain ⟨r1, fs, e2, e3, rfl⟩ := evEs_cons e1
  obtain ⟨r2, fs, e4, e5, rfl⟩ := evEs_cons e3
  cases evEs_nil e5
  refine ⟨O, H0, A, ρ, r1, ok, e2, fun v1 H1 s1 h1 => ⟨?_, ⟨O, H0, A, ρ, r2, ok.same s1, e4, fun v2 H2 s2 h2 => ?_⟩⟩⟩
  · -- it is a list
    have hb := rpB_of ok s1 h1
    obtain ⟨fl, d⟩ := r1
    cases d <;> try cases ev2
    obtain ⟨a, xs, rfl, hr, _⟩ := hb.list
    exact .inl ⟨rfl, xs, .inl hr⟩
  · exact ⟨Ow O A, _, r, fun a z => ((ok.same s1).same s2).own_some z, .cons ((rpB_of ok s1 h1).same s2) (.cons (rpB_of (ok.same s1) s2 h2) .nil), ev2, fun v H' s3 h3 => q v H' (s1.trans (s2.trans s3)) (RpX.up (s1.trans s2) h3.toX)⟩
/-- x.count(y) -/
theorem s_count {X : Cx} {sc : Sc} {o e : Expr} {apos cpos : Pos} {x y : E} (gd : Good c k sc X) (ho : Both X o x) (he : Both X e y) (hl : (apos.endLine == cpos.line) = true) (hc : notCall o = true) (n : noStar o = true) (ne : noStar e = true) (bb : Bool) :
    PE X (.Call (.Attribute o "count" apos) [e] [] cpos) (tE X.K (.bi .count (.cons x (.cons y .nil))) bb) := by
  have hu : X.A.units + 65 < cLine := by have := gd.room.un; omega
  have h1 : starEach [e] X.env = (false, eval e X.env) :: starEach [] X.env := starEach_cons ne
  refine PE.imp (pe_bm PySem.F.plainAttrs_list PySem.F.slot_list_count PySem.F.type_list_count (mt_countP hu) (ho.1 true) (pa_cons (he.1 true) pa_nil h1) (attr_plain n hc) (by rw [h1]; rfl) hl h1 rfl) fun σ H Q ⟨O, H0, A, ρ, r, ok, ev, q⟩ => ?_
  simp only [evE] at ev
  obtain ⟨ds, e1, ev2⟩ := bind_some ev
  obtain ⟨r1, fs, e2, e3, rfl⟩ := evEs_cons e1
  obtain ⟨r2, fs, e4, e5, rfl⟩ := evEs_cons e3
  cases evEs_nil e5
  refine ⟨O, H0, A, ρ, r1, ok, e2, fun v1 H1 s1 h1 => ⟨?_, ⟨O, H0, A, ρ, r2, ok.same s1, e4, fun v2 H2 s2 h2 => ?_⟩⟩⟩
  · have hb := rpB_of ok s1 h1
    obtain ⟨fl, d⟩ := r1
    cases d <;> try cases ev2
    obtain ⟨a, xs, rfl, hr, _⟩ := hb.list
    exact .inl ⟨rfl, xs, .inl hr⟩
  · exact ⟨Ow O A, _, r, fun a z => ((ok.same s1).same s2).own_some z, .cons ((rpB_of ok s1 h1).same s2) (.cons (rpB_of (ok.same s1) s2 h2) .nil), ev2, fun v H' s3 h3 => q v H' (s1.trans (s2.trans s3)) (RpX.up (s1.trans s2) h3.toX)⟩
/-- list(range(..)) -/
theorem rgV_rng {a b : Int} : ∀ {K : PySem.W.Frag} {H : Hp} {O : Set0}, RpA K H O (rgV a b) (rngI a (b - a).toNat) := by
  intro K H O
  have e : rngI a (b - a).toNat = ((List.range (b - a).toNat).map fun (i : Nat) => a + (i : Int)).map PyData.int := by unfold rngI; rw [List.map_map]; rfl
  have e2 : rgV a b = ((List.range (b - a).toNat).map fun (i : Nat) => a + (i : Int)).map V.int := by unfold rgV; rw [List.map_map]; rfl
  rw [e, e2]
  exact rpA_ints
theorem rgOk_of {a b : Int} (h1 : smallI a = true) (h2 : smallI b = true) (h3 : lenOk (b - a).toNat = true) : RgOk a b := by
  have h3 : (b - a).toNat ≤ sizeLine := lenOk_le h3
  rw [sizeLine_eq] at h3
  unfold smallI at h1 h2
  simp only [Bool.and_eq_true, decide_eq_true_eq] at h1 h2
  refine ⟨by omega, by omega, by omega, by omega, by omega⟩
theorem s_rngl1 {X : Cx} {sc : Sc} {e : Expr} {p p2 pos q : Pos} {x : E} (gd : Good c k sc X) (hg : gli sc "list") (hg2 : gli sc "range") (he : Both X e x) (n : noStar e = true) (bb : Bool) :
    PE X (.Call (.Name "list" p) [.Call (.Name "range" p2) [e] [] q] [] pos) (tE X.K (.rngl (.cons x .nil)) bb) := by
  refine PE.imp (pe_listRg gd.calm (gd.gl _ hg) (gd.blt "list" (by decide +kernel)) (prg_1 (gd.gl _ hg2) (gd.blt "range" (by decide +kernel)) (he.1 true) (starEach_cons n)) (starEach_cons rfl)) fun σ H Q ⟨O, H0, A, ρ, r, ok, ev, qq⟩ => ?_
  simp only [evE] at ev
  obtain ⟨ds, e1, ev2⟩ := bind_some ev
  obtain ⟨l, e3, e4⟩ := map_some ev2
  subst e4
  obtain ⟨r1, fs, e2, e5, rfl⟩ := evEs_cons e1
  cases evEs_nil e5
  obtain ⟨i, q1, q2, q3, rfl⟩ := evRng1 e3
  refine ⟨O, H0, A, ρ, r1, ok, e2, fun v H1 s1 hv => ?_⟩
  have hv := rpB_int (rpB_of ok s1 hv) q1
  refine ⟨i, hv, rgOk_of (by decide) q2 (by simpa using q3), fun a ha => ?_⟩
  have g := Gives.new (P := Ow O A) (Q := Q) (ds := rngI 0 i.toNat) (xs := rgV 0 i) (fun a z => (ok.same s1).own_some z) (fun v H2 s2 h2 => qq v H2 (s1.trans s2) (RpX.up s1 h2.toX)) (by have := rgV_rng (a := 0) (b := i) (K := X.K) (H := H1) (O := Ow O A); rwa [Int.sub_zero] at this)
  exact g a ha
theorem s_rngl2 {X : Cx} {sc : Sc} {e f : Expr} {p p2 pos q : Pos} {x y : E} (gd : Good c k sc X) (hg : gli sc "list") (hg2 : gli sc "range") (he : Both X e x) (n : noStar e = true) (hf : Both X f y) (m : noStar f = true) (bb : Bool) :
    PE X (.Call (.Name "list" p) [.Call (.Name "range" p2) [e, f] [] q] [] pos) (tE X.K (.rngl (.cons x (.cons y .nil))) bb) := by
  refine PE.imp (pe_listRg gd.calm (gd.gl _ hg) (gd.blt "list" (by decide +kernel)) (prg_2 (gd.gl _ hg2) (gd.blt "range" (by decide +kernel)) (he.1 true) (hf.1 true) (starEach_cons n) (starEach_cons m) (by rw [starEach_cons m]; rfl)) (starEach_cons rfl)) fun σ H Q ⟨O, H0, A, ρ, r, ok, ev, qq⟩ => ?_
  simp only [evE] at ev
  obtain ⟨ds, e1, ev2⟩ := bind_some ev
  obtain ⟨l, e3, e4⟩ := map_some ev2
  subst e4
  obtain ⟨r1, fs, e2, e5, rfl⟩ := evEs_cons e1
  obtain ⟨r2, fs, e6, e7, rfl⟩ := evEs_cons e5
  cases evEs_nil e7
  obtain ⟨i, j, q1, q2, q3, q4, q5, rfl⟩ := evRng2 e3
  refine ⟨O, H0, A, ρ, r1, ok, e2, fun v H1 s1 hv => ⟨O, H0, A, ρ, r2, ok.same s1, e6, fun v2 H2 s2 hv2 => ?_⟩⟩
  have hv := rpB_int (rpB_of ok s1 hv) q1
  have hv2 := rpB_int (rpB_of (ok.same s1) s2 hv2) q2
  refine ⟨i, j, hv, hv2, rgOk_of q3 q4 q5, fun a ha => ?_⟩
  have g := Gives.new (P := Ow O A) (Q := Q) (ds := rngI i (j - i).toNat) (xs := rgV i j) (fun a z => ((ok.same s1).same s2).own_some z) (fun v H3 s3 h3 => qq v H3 (s1.trans (s2.trans s3)) (RpX.up (s1.trans s2) h3.toX)) rgV_rng
  exact g a ha
/-- sorted(set(x)) -/
theorem s_sset {X : Cx} {sc : Sc} {e : Expr} {p p2 pos q : Pos} {x : E} (gd : Good c k sc X) (hg : gli sc "sorted") (hg2 : gli sc "set") (he : Both X e x) (n : noStar e = true) (bb : Bool) :
    PE X (.Call (.Name "sorted" p) [.Call (.Name "set" p2) [e] [] q] [] pos) (tE X.K (.bi .sortedSet (.cons x .nil)) bb) := by
  have h1 : starEach [e] X.env = (false, eval e X.env) :: starEach [] X.env := starEach_cons n
  have hi := pe_callTy (p := p2) (pos := q) (call_setP gd.calm) (gd.gl _ hg2) (gd.blt "set" (by decide +kernel)) PyProof.Rows.boot_set (pa_cons (he.1 true) pa_nil h1) (by decide +kernel) (by decide +kernel) h1 rfl
  have ho := pe_callB (cr_sortedSet gd.calm) (gd.gl _ hg) (gd.blt "sorted" (by decide +kernel)) PyProof.Rows.boot_sorted (pa_cons hi pa_nil rfl) (by decide +kernel) (by decide +kernel) rfl rfl (p := p) (pos := pos)
  refine PE.imp ho fun σ H Q ⟨O, H0, A, ρ, r, ok, ev, qq⟩ => ?_
  simp only [evE] at ev
  obtain ⟨ds, e1, ev2⟩ := bind_some ev
  obtain ⟨r1, fs, e2, e3, rfl⟩ := evEs_cons e1
  cases evEs_nil e3
  obtain ⟨fl, d⟩ := r1
  cases d <;> try cases ev2
  rename_i dl
  obtain ⟨ns, i1, i2⟩ := bind_some (show (intsOf dl).bind (fun l => if Nat.blt l.length 64 then some (true, PyData.list ((sortI (dedupI l)).map PyData.int)) else none) = some r from ev2)
  split at i2
  case isFalse => cases i2
  rename_i hz
  cases i2
  refine ⟨O, H0, A, ρ, _, ok, e2, fun v H1 s1 hv => ⟨Ow O A, dl, ns, .cons (rpB_of ok s1 hv) .nil, i1, Nat.le_of_ble_eq_true hz, fun a m ha hm => ⟨a, _, m, rfl, upd_same, hm, fun zs a2 hs hx hl hn => ?_⟩⟩⟩
  have ez : zs = sortI (dedupI ns) := setI_eq hs fun y => by rw [hx y, decide_eq_true_eq]
  have s2 := s1.trans ((same_upd ha).trans (same_upd (o := HO.lst (zs.map V.int)) hn))
  have hf : H a2 = none := s1.free ((same_upd ha).free hn)
  refine qq _ _ s2 (RpR.toX (P := Ow O A) ⟨a2, _, _, rfl, rfl, upd_same, hf, ?_⟩)
  rw [ez]
  exact rpA_ints
mutual
theorem soundE : ∀ {sc : Sc} {e : Expr} {x : E}, CE c sc e x → ∀ {X : Cx}, Good c k sc X → Both X e x
  | _, _, _, .name (i := i) h1 h2 h3 h4, X, gd => both_plain (fun b => PE.imp (pe_var (i := i) (by rw [gd.hN]; exact h1) (gd.vis h2) h3 h4) fun σ H Q ⟨O, H0, A, ρ, r, ok, ev, q⟩ => by
      obtain ⟨v, e1, h⟩ := slot_val ok ev
      exact ⟨v, e1, q v H (Same.refl H) h⟩) fun _ => rfl
  | _, _, _, .const h1 h2 h3, X, gd => by
    obtain ⟨u, v, hm, r, hr⟩ := gd.csts _ _ h2
    refine both_plain (fun b => PE.imp (pe_glob (gd.gl _ h1) hm r h3) fun σ H Q ⟨O, H0, A, ρ, r, ok, ev, q⟩ => ?_) fun _ => rfl
    simp only [evE] at ev
    cases ev
    exact q v H (Same.refl H) (RpX.sh (hr H _))
  | _, _, _, .int, X, gd => both_plain (fun b => PE.imp pe_int fun σ H Q ⟨O, H0, A, ρ, r, ok, ev, q⟩ => by
      simp only [evE] at ev; cases ev; exact q _ H (Same.refl H) (RpX.sh (.int _))) fun _ => rfl
  | _, _, _, .bool, X, gd => both_plain (fun b => PE.imp pe_bl fun σ H Q ⟨O, H0, A, ρ, r, ok, ev, q⟩ => by
      simp only [evE] at ev; cases ev; exact q _ H (Same.refl H) (RpX.sh (.bl _))) fun _ => rfl
  | _, _, _, .none, X, gd => both_plain (fun b => PE.imp pe_non fun σ H Q ⟨O, H0, A, ρ, r, ok, ev, q⟩ => by
      simp only [evE] at ev; cases ev; exact q _ H (Same.refl H) (RpX.sh .non)) fun _ => rfl
  | _, _, _, .str, X, gd => both_plain (fun b => PE.imp pe_str fun σ H Q ⟨O, H0, A, ρ, r, ok, ev, q⟩ => by
      simp only [evE] at ev; cases ev; exact q _ H (Same.refl H) (RpX.sh (.str _))) fun _ => rfl
  | _, _, _, .bin h1 h2, X, gd => both_plain (s_bin (soundE h1 gd) (soundE h2 gd)) fun _ => rfl
  | _, _, _, .neg h1, X, gd => both_plain (s_neg (soundE h1 gd)) fun _ => rfl
  | _, _, _, .cmp h1 h2 hm, X, gd => s_cmp gd.room.units (soundE h1 gd) (soundE h2 gd) hm
  | _, _, _, .chain h1 h2 h3 hm, X, gd => s_chain gd.room.units (soundE h1 gd) (soundE h2 gd) (soundE h3 gd) hm
  | _, _, _, .and h, X, gd => ⟨(soundA h gd).1, (soundA h gd).2.pt⟩
  | _, _, _, .or h, X, gd => ⟨(soundO h gd).1, (soundO h gd).2.pt⟩
  | _, _, _, .not h1, X, gd => s_not (soundE h1 gd)
  | _, _, _, .ite h1 h2 h3, X, gd => ⟨s_ite (soundE h1 gd) (soundE h2 gd) (soundE h3 gd), s_iteT (soundE h1 gd) (soundE h2 gd) (soundE h3 gd)⟩
  | _, _, _, .tup h, X, gd => both_plain (s_tup (soundEs h gd)) fun _ => rfl
  | _, _, _, .lst h, X, gd => both_plain (s_lst (soundEs h gd)) fun _ => rfl
  | _, _, _, .ix h1 h2 n, X, gd => both_plain (s_ix (soundE h1 gd) (soundE h2 gd) n) fun _ => rfl
  | _, _, _, .sl h1 h2 h3, X, gd => both_plain (s_sl (soundE h1 gd) (soundP h2 gd) (soundP h3 gd)) fun _ => rfl
  | _, _, _, .call h1 h2 h3 (.cons he n hs), X, gd => both_plain (s_call gd h1 h2 h3 n (ces_star hs _ _) (s_cons (soundE he gd) n (soundEs hs gd))) fun _ => rfl
  | _, _, _, .call0 h1 h2 h3, X, gd => both_plain (s_call0 gd h1 h2 h3) fun _ => rfl
  | _, _, _, .rev h1, X, gd => both_plain (s_rev (soundE h1 gd)) fun _ => rfl
  | _, _, _, .rngl1 h1 h2 he n, X, gd => both_plain (s_rngl1 gd h1 h2 (soundE he gd) n) fun _ => rfl
  | _, _, _, .rngl2 h1 h2 he n hf m, X, gd => both_plain (s_rngl2 gd h1 h2 (soundE he gd) n (soundE hf gd) m) fun _ => rfl
  | _, _, _, .count h1 h2 hl hc n ne, X, gd => both_plain (s_count gd (soundE h1 gd) (soundE h2 gd) hl hc n ne) fun _ => rfl
  | _, _, _, .bi h1 h2 (.cons he n hs), X, gd => both_plain (s_bi gd h1 h2 n (ces_star hs _ _) (s_cons (soundE he gd) n (soundEs hs gd))) fun _ => rfl
  | _, _, _, .sset h1 h2 he n, X, gd => both_plain (s_sset gd h1 h2 (soundE he gd) n) fun _ => rfl
  | _, _, _, .is h1 h2 h3 he n, X, gd => both_plain (s_is gd h1 h2 h3 (soundE he gd) n) fun _ => rfl
  | _, _, _, .index h1 h2 hl hc n ne, X, gd => both_plain (s_index gd (soundE h1 gd) (soundE h2 gd) hl hc n ne) fun _ => rfl
  | _, _, _, .comp h1 h2 h3 h4 hb hg hs, X, gd => both_plain (s_comp gd (soundI h1 gd) h2 (fun gd' => soundC h3 gd') (fun gd' => soundE h4 gd') hb hg hs) fun _ => rfl
  | _, _, _, .comp2 h1 h2 h3 h4 h5 h6 h7 hb hg hg1 ho hs hs1, X, gd => both_plain (s_comp2 gd (soundI h1 gd) h2 (fun gd' => soundC h3 gd') (fun gd' => soundI h4 gd') h5 (fun gd' => soundC h6 gd') (fun gd' => soundE h7 gd') hb hg hg1 ho hs hs1) fun _ => rfl
theorem soundA : ∀ {sc : Sc} {es : List Expr} {pos : Pos} {x : E}, CA c sc es pos x → ∀ {X : Cx}, Good c k sc X → (∀ b, PE X (.BoolOp .And es pos) (tE X.K x b)) ∧ PW X (.BoolOp .And es pos) (tT X.K x)
  | _, _, _, _, .one h, X, gd => ⟨fun b => pe_one ((soundE h gd).1 b), pw_and1 (soundE h gd).2⟩
  | _, _, _, _, .cons h t, X, gd => by
    have h1 := soundE h gd
    obtain ⟨h2, h3⟩ := soundA t gd
    refine ⟨fun b => PE.imp (pe_and (h1.1 true) (h2 b)) fun σ H Q ⟨O, H0, A, ρ, r, ok, ev, q⟩ => ?_, PW.imp (pw_and h1.2 h3) fun σ H Q ⟨O, H0, A, ρ, kk, ok, ev, q⟩ => ?_⟩
    · simp only [evE] at ev
      obtain ⟨r1, e1, ev2⟩ := bind_some ev
      split at ev2
      · rename_i e2
        exact ⟨O, H0, A, ρ, r1, ok, e1, fun v1 H1 s1 h1 => ⟨true, rpB_bool (rpB_of ok s1 h1) e2, by rw [if_pos rfl]; exact ⟨O, H0, A, ρ, r, ok.same s1, ev2, fun v H' s h => q v H' (s1.trans s) (h.up s1)⟩⟩⟩
      · rename_i e2
        cases ev2
        exact ⟨O, H0, A, ρ, r1, ok, e1, fun v1 H1 s1 h1 => ⟨false, rpB_bool (rpB_of ok s1 h1) e2, by rw [if_neg Bool.false_ne_true]; exact q _ _ s1 rpX_bl⟩⟩
      · cases ev2
    · obtain ⟨r, ev, e9⟩ := evT_inv ev
      simp only [evE] at ev
      obtain ⟨r1, e1, ev2⟩ := bind_some ev
      split at ev2
      · rename_i e2
        exact ⟨O, H0, A, ρ, true, ok, evT_of e1 e2, fun H1 s1 => by show tT X.K _ σ H1 Q; exact ⟨O, H0, A, ρ, kk, ok.same s1, evT_of ev2 e9, fun H2 s2 => q H2 (s1.trans s2)⟩⟩
      · rename_i e2
        cases ev2
        cases e9
        exact ⟨O, H0, A, ρ, false, ok, evT_of e1 e2, fun H1 s1 => by show Q false H1; exact q H1 s1⟩
      · cases ev2
theorem soundO : ∀ {sc : Sc} {es : List Expr} {pos : Pos} {x : E}, CO c sc es pos x → ∀ {X : Cx}, Good c k sc X → (∀ b, PE X (.BoolOp .Or es pos) (tE X.K x b)) ∧ PW X (.BoolOp .Or es pos) (tT X.K x)
  | _, _, _, _, .one h, X, gd => ⟨fun b => pe_one ((soundE h gd).1 b), pw_or1 (soundE h gd).2⟩
  | _, _, _, _, .cons h t, X, gd => by
    have h1 := soundE h gd
    obtain ⟨h2, h3⟩ := soundO t gd
    refine ⟨fun b => PE.imp (pe_or (h1.1 true) (h2 b)) fun σ H Q ⟨O, H0, A, ρ, r, ok, ev, q⟩ => ?_, PW.imp (pw_or h1.2 h3) fun σ H Q ⟨O, H0, A, ρ, kk, ok, ev, q⟩ => ?_⟩
    · simp only [evE] at ev
      obtain ⟨r1, e1, ev2⟩ := bind_some ev
      split at ev2
      · rename_i e2
        exact ⟨O, H0, A, ρ, r1, ok, e1, fun v1 H1 s1 h1 => ⟨false, rpB_bool (rpB_of ok s1 h1) e2, by rw [if_neg Bool.false_ne_true]; exact ⟨O, H0, A, ρ, r, ok.same s1, ev2, fun v H' s h => q v H' (s1.trans s) (h.up s1)⟩⟩⟩
      · rename_i e2
        cases ev2
        exact ⟨O, H0, A, ρ, r1, ok, e1, fun v1 H1 s1 h1 => ⟨true, rpB_bool (rpB_of ok s1 h1) e2, by rw [if_pos rfl]; exact q _ _ s1 rpX_bl⟩⟩
      · cases ev2
    · obtain ⟨r, ev, e9⟩ := evT_inv ev
      simp only [evE] at ev
      obtain ⟨r1, e1, ev2⟩ := bind_some ev
      split at ev2
      · rename_i e2
        exact ⟨O, H0, A, ρ, false, ok, evT_of e1 e2, fun H1 s1 => by show tT X.K _ σ H1 Q; exact ⟨O, H0, A, ρ, kk, ok.same s1, evT_of ev2 e9, fun H2 s2 => q H2 (s1.trans s2)⟩⟩
      · rename_i e2
        cases ev2
        cases e9
        exact ⟨O, H0, A, ρ, true, ok, evT_of e1 e2, fun H1 s1 => by show Q true H1; exact q H1 s1⟩
      · cases ev2
theorem soundEs : ∀ {sc : Sc} {es : List Expr} {xs : Es}, CEs c sc es xs → ∀ {X : Cx}, Good c k sc X → ∀ b, PA X es (tEs X.K xs b)
  | _, _, _, .nil, X, gd => s_nil
  | _, _, _, .cons h n t, X, gd => s_cons (soundE h gd) n (soundEs t gd)
theorem soundP : ∀ {sc : Sc} {e : Option Expr} {x : Oe}, CP c sc e x → ∀ {X : Cx}, Good c k sc X → PO X e (tP X.K x)
  | _, _, _, .no, X, gd => s_po trivial
  | _, _, _, .yes h, X, gd => s_po (soundE h gd)
theorem soundC : ∀ {sc : Sc} {es : List Expr} {x : Oe}, CC c sc es x → ∀ {X : Cx}, Good c k sc X → PTs X es (tC X.K x)
  | _, _, _, .no, X, gd => s_cno
  | _, _, _, .yes h, X, gd => s_cyes (soundE h gd)
theorem soundI : ∀ {sc : Sc} {e : Expr} {x : I}, CI c sc e x → ∀ {X : Cx}, Good c k sc X → ∀ {tg : Expr} (b : Bool), PI X tg e (tI X.K x b)
  | _, _, _, .rng h1 (.cons he n hs) hl, X, gd => s_rng gd h1 (.cons he n hs) hl (s_cons (soundE he gd) n (soundEs hs gd))
  | _, _, _, .seq h, X, gd => s_seq (soundE h gd)
end
end
end PV

set_option Elab.async false
set_option linter.all false
set_option maxRecDepth 100000
set_option maxHeartbeats 4000000
/-! PV10: statements as S, and that they do what evS says. -/
namespace PV
open PySem PySem.Spec PyProof.Rows L2

/-! ### the text -/
def noTup : Expr → Bool
  | .Tuple _ _ _ => false
  | _ => true
def noComp : Expr → Bool
  | .ListComp _ _ _ _ => false
  | .SetComp _ _ _ _ => false
  | .DictComp _ _ _ _ _ => false
  | _ => true
def nameCell (sc : Sc) : Expr → Bool
  | .Name x _ => match sc.lookup x with
    | some .cell => true
    | _ => false
  | _ => false
/-- a target and a value whose stores stand in their order -/
def plainSt (sc : Sc) : Expr → Expr → Bool
  | .Tuple ts _ _, .Tuple vs _ _ => !(ts.length == 2 || ts.length == 3) || vs.all (foldedForSure 8) || ts.any (nameCell sc)
  | .List _ _, _ => false
  | _, _ => true
/-- a value that is no comprehension that goes straight to its name -/
def noSwap (sc : Sc) : Expr → Expr → Bool
  | .Name x p, .ListComp _ _ s q => !(match sc.lookup x with | some .local => true | _ => false) || !(p.line == q.line) || s.names.any fun (n, k) => n == x && (k == .local || k == .cell)
  | _, e => noComp e || (match e with | .ListComp _ _ _ _ => true | _ => false)
/-- a comprehension that does -/
def yesSwap (sc : Sc) : Expr → Expr → Bool
  | .Name x p, .ListComp _ _ s q => (match sc.lookup x with | some .local => true | _ => false) && (p.line == q.line) && !(s.names.any fun (n, k) => n == x && (k == .local || k == .cell))
  | _, _ => false
def swapPair : Expr → Expr → Bool
  | a, b => !([a, b].all (foldedForSure 8)) && !([a, b].all (constantsAlone 8))
def swapTri : Expr → Expr → Expr → Bool
  | a, b, d => !([a, b, d].all (foldedForSure 8)) && !([a, b, d].all (constantsAlone 8))
mutual
inductive CS (c : Cfg) (sc : Sc) : Stmt → S → Prop
  | asg {tg e pos g x} : CG c sc tg g → CE c sc e x → noSwap sc tg e = true → plainSt sc tg e = true → CS c sc (.Assign [tg] e pos) (.asg g x)
  | asgs {x p e pos i y} : c.N[i]? = some x → loc sc x → CE c sc e y → noSwap sc (.Name x p) e = true → CS c sc (.Assign [.Name x p] e pos) (.asgs i y)
  | asgsLc {y py elt gs scope pos spos i x} : c.N[i]? = some y → sc.lookup y = some .local → CE c sc (.ListComp elt gs scope pos) x → yesSwap sc (.Name y py) (.ListComp elt gs scope pos) = true → CS c sc (.Assign [.Name y py] (.ListComp elt gs scope pos) spos) (.asgs i x)
  | asgLc {y py elt gs scope pos spos i x} : c.N[i]? = some y → sc.lookup y = some .local → CE c sc (.ListComp elt gs scope pos) x → yesSwap sc (.Name y py) (.ListComp elt gs scope pos) = true → CS c sc (.Assign [.Name y py] (.ListComp elt gs scope pos) spos) (.asg (.nm i) x)
  | par {x y px py kt pt a b k2 pt2 pos i j xa xb} : c.N[i]? = some x → c.N[j]? = some y → sc.lookup x = some .local → sc.lookup y = some .local → (x == y) = false → (px.line == py.line) = true → CE c sc a xa → CE c sc b xb → noStar a = true → noStar b = true → swapPair a b = true →
      CS c sc (.Assign [.Tuple [.Name x px, .Name y py] kt pt] (.Tuple [a, b] k2 pt2) pos) (.par i j xa xb)
  | par3 {x y z px py pz kt pt a b d k2 pt2 pos i j l xa xb xd} : c.N[i]? = some x → c.N[j]? = some y → c.N[l]? = some z → sc.lookup x = some .local → sc.lookup y = some .local → sc.lookup z = some .local → (x == y) = false → (x == z) = false → (y == z) = false → (px.line == py.line) = true → (px.line == pz.line) = true →
      CE c sc a xa → CE c sc b xb → CE c sc d xd → noStar a = true → noStar b = true → noStar d = true → swapTri a b d = true →
      CS c sc (.Assign [.Tuple [.Name x px, .Name y py, .Name z pz] kt pt] (.Tuple [a, b, d] k2 pt2) pos) (.par3 i j l xa xb xd)
  | app {x px e apos cpos pos i y} : c.N[i]? = some x → vis sc x → (x == ("__debug__" : Str)) = false → (x == ("__classdict__" : Str)) = false → CE c sc e y → noStar e = true → (apos.endLine == cpos.line) = true → CS c sc (.Expr (.Call (.Attribute (.Name x px) "append" apos) [e] [] cpos) pos) (.app i y)
  | ext {x px e apos cpos pos i y} : c.N[i]? = some x → vis sc x → (x == ("__debug__" : Str)) = false → (x == ("__classdict__" : Str)) = false → CE c sc e y → noStar e = true → (apos.endLine == cpos.line) = true → CS c sc (.Expr (.Call (.Attribute (.Name x px) "extend" apos) [e] [] cpos) pos) (.ext i y)
  | ins {x px a e apos cpos pos i y z} : c.N[i]? = some x → vis sc x → (x == ("__debug__" : Str)) = false → (x == ("__classdict__" : Str)) = false → CE c sc a z → CE c sc e y → noStar a = true → noStar e = true → (apos.endLine == cpos.line) = true → CS c sc (.Expr (.Call (.Attribute (.Name x px) "insert" apos) [a, e] [] cpos) pos) (.ins i z y)
  | put {x px a e p pos i y z} : c.N[i]? = some x → vis sc x → (x == ("__debug__" : Str)) = false → (x == ("__classdict__" : Str)) = false → CE c sc a z → CE c sc e y → noSlice a = true → noComp e = true → CS c sc (.Assign [.Subscript (.Name x px) a p] e pos) (.put i z y)
  | pop {tg g x px apos cpos pos i} : CG c sc tg g → c.N[i]? = some x → vis sc x → (x == ("__debug__" : Str)) = false → (x == ("__classdict__" : Str)) = false → (apos.endLine == cpos.line) = true → CS c sc (.Assign [tg] (.Call (.Attribute (.Name x px) "pop" apos) [] [] cpos) pos) (.pop g i)
  | ret {e pos x} : CE c sc e x → CS c sc (.Return (some e) pos) (.ret x)
  | retN {pos} : CS c sc (.Return none pos) .retN
  | ite {t a b pos z xa xb} : CE c sc t z → CSs c sc a xa → CSs c sc b xb → CS c sc (.If t a b pos) (.ite z xa xb)
  | for_ {tg iter body pos g it b} : CG c sc tg g → CI c sc iter it → noSet iter = true → CSs c sc body b → CS c sc (.For tg iter body [] pos) (.for_ g it b)
  | while_ {t body pos z b} : CE c sc t z → CSs c sc body b → CS c sc (.While t body [] pos) (.while_ z b)
  | never {st} : CS c sc st .never
inductive CSs (c : Cfg) (sc : Sc) : List Stmt → Ss → Prop
  | nil : CSs c sc [] .nil
  | cons {st sts s ss} : CS c sc st s → CSs c sc sts ss → CSs c sc (st :: sts) (.cons s ss)
  | share {sts ss i} : CSs c sc sts ss → CSs c sc sts (.cons (.share i) ss)
end

/-! ### readings -/
/-- from one state to a later one: what is no owned list stays; owned lists are the same or new ones -/
def Stp (O : Set0) (A : Nat → Option Addr) (H : Hp) (A' : Nat → Option Addr) (H' : Hp) : Prop := (∀ a o, H a = some o → ¬ Ow O A a → H' a = some o) ∧ ∀ a, Ow O A' a → Ow O A a ∨ H a = none
theorem Stp.refl {O : Set0} {A : Nat → Option Addr} {H : Hp} : Stp O A H A H := ⟨fun _ _ e _ => e, fun _ z => .inl z⟩
theorem Stp.same {O : Set0} {A : Nat → Option Addr} {H H' : Hp} (s : Same H H') : Stp O A H A H' := ⟨fun _ _ e _ => s _ _ e, fun _ z => .inl z⟩
theorem Stp.trans {O : Set0} {A A1 A2 : Nat → Option Addr} {H H1 H2 : Hp} (a : Stp O A H A1 H1) (b : Stp O A1 H1 A2 H2) : Stp O A H A2 H2 := by
  refine ⟨fun x o e n => b.1 _ _ (a.1 _ _ e n) fun z => ?_, fun x z => ?_⟩
  · rcases a.2 _ z with z | z
    · exact n z
    · rw [e] at z; cases z
  · rcases b.2 _ z with z | z
    · exact a.2 _ z
    · by_cases h : Ow O A x
      · exact .inl h
      · cases q : H x with
        | none => exact .inr rfl
        | some o => rw [a.1 _ _ q h] at z; cases z
def Post (K : PySem.W.Frag) (O : Set0) (H0 : Hp) (A : Nat → Option Addr) (H : Hp) (D : Ends) : Out → Prop
  | .nx ρ' => ∀ A' σ' H', Ok K O H0 A' H' σ' ρ' → Stp O A H A' H' → D.nx σ' H'
  | .bk ρ' => ∀ A' σ' H', Ok K O H0 A' H' σ' ρ' → Stp O A H A' H' → D.bk σ' H'
  | .ct ρ' => ∀ A' σ' H', Ok K O H0 A' H' σ' ρ' → Stp O A H A' H' → D.ct σ' H'
  | .rt r => ∀ v H', Same H0 H' → RpR K H0 H' O false v r → D.rt v H'
theorem Post.later {K : PySem.W.Frag} {O : Set0} {H0 : Hp} {A A1 : Nat → Option Addr} {H H1 : Hp} {D : Ends} {out : Out} (h : Post K O H0 A H D out) (s : Stp O A H A1 H1) : Post K O H0 A1 H1 D out := by
  cases out with
  | nx ρ' => exact fun A' σ' H' ok s' => h A' σ' H' ok (s.trans s')
  | bk ρ' => exact fun A' σ' H' ok s' => h A' σ' H' ok (s.trans s')
  | ct ρ' => exact fun A' σ' H' ok s' => h A' σ' H' ok (s.trans s')
  | rt r => exact h
def tS (K : PySem.W.Frag) (n : Nat) (s : S) : TS := fun D σ H => ∃ (O : Set0) (H0 : Hp) (A : Nat → Option Addr) (ρ : Sl) (out : Out), Ok K O H0 A H σ ρ ∧ evS n s ρ = some out ∧ Post K O H0 A H D out
def tSs (K : PySem.W.Frag) (n : Nat) (s : Ss) : TS := fun D σ H => ∃ (O : Set0) (H0 : Hp) (A : Nat → Option Addr) (ρ : Sl) (out : Out), Ok K O H0 A H σ ρ ∧ evSs n s ρ = some out ∧ Post K O H0 A H D out
section
variable {X : Cx}
theorem PS.imp {st : Stmt} {t t' : TS} (h : PS X st t) (i : ∀ D σ H, t' D σ H → t D σ H) : PS X st t' := ⟨fun pins s σ H D I q => h.run pins s σ H D I (i D σ H q)⟩
theorem PSs.imp {st : List Stmt} {t t' : TS} (h : PSs X st t) (i : ∀ D σ H, t' D σ H → t D σ H) : PSs X st t' := ⟨fun pins s σ H D I q => h.run pins s σ H D I (i D σ H q)⟩
end

/-! ### stores -/
section
variable {K : PySem.W.Frag} {O : Set0} {H0 H H1 H' : Hp} {A : Nat → Option Addr} {σ : L2.St} {ρ : Sl}
/-- any value goes into a slot -/
theorem Ok.store (ok : Ok K O H0 A H σ ρ) (s : Same H H') {i : Nat} {v : V} {r : R} (h : RpR K H H' (Ow O A) false v r) :
    ∃ A', Ok K O H0 A' H' (σ.set i (some v)) (ρ.set i (some r)) ∧ Stp O A H A' H' := by
  obtain ⟨fl, d⟩ := r
  cases fl with
  | false => exact ⟨A, (ok.same s).set h, Stp.same s⟩
  | true =>
    obtain ⟨a, xs, ds, e1, e2, e3, e4, h⟩ := h
    have e2 : d = .list ds := e2
    subst e1 e2
    refine ⟨_, ok.setOwn s e4 e3 h, fun _ _ e _ => s _ _ e, fun x z => ?_⟩
    rcases z with z | ⟨j, z⟩
    · exact .inl (.inl z)
    · by_cases hj : j = i
      · simp only [hj, if_true] at z
        exact .inr (by rw [← Option.some.inj z]; exact e4)
      · simp only [hj, if_false] at z
        exact .inl (.inr ⟨j, z⟩)
theorem own_inv {i : Nat} {ds : List PyData} (h : own ρ i = some ds) : ρ[i]? = some (some (true, .list ds)) := by
  unfold own at h
  split at h
  · rename_i e; cases h; exact e
  · cases h
theorem Ok.owned (ok : Ok K O H0 A H σ ρ) {i : Nat} {ds : List PyData} (h : own ρ i = some ds) : ∃ a xs, A i = some a ∧ σ[i]? = some (some (.ref a)) ∧ H a = some (.lst xs) ∧ RpA K H (Ow O A) xs ds := by
  obtain ⟨v, e, a, xs, ds', q1, q2, q3, q4, h⟩ := ok.val i _ (own_inv h)
  cases q3
  subst q2
  exact ⟨a, xs, q1, e, q4, h⟩
theorem Stp.upd {i : Nat} {a : Addr} {o : HO} (hA : A i = some a) : Stp O A H A (L2.upd H a o) :=
  ⟨fun b u e n => by rw [upd_ne (fun z => n (.inr ⟨i, by rw [z]; exact hA⟩))]; exact e, fun _ z => .inl z⟩
end
end PV

set_option Elab.async false
set_option linter.all false
set_option maxRecDepth 100000
set_option maxHeartbeats 4000000
/-! PV11: soundness of statements. -/
namespace PV
open PySem PySem.Spec PyProof.Rows L2
theorem sw_fold {ts vs : List Expr} {k k2 : Nat} {p p2 : Pos} {env : Env} (h : vs.all (foldedForSure 8) = true) : swappedStores [.Tuple ts k p] (.Tuple vs k2 p2) env = pure none := by
  unfold swappedStores
  simp only [h, if_true]
  repeat' split
  all_goals rfl
theorem sw_len {ts vs : List Expr} {k k2 : Nat} {p p2 : Pos} {env : Env} (h : (ts.length == 2 || ts.length == 3) = false) : swappedStores [.Tuple ts k p] (.Tuple vs k2 p2) env = pure none := by
  unfold swappedStores
  simp only [h, Bool.not_false, Bool.true_or, if_true]
theorem sw_cell {ts vs : List Expr} {k k2 : Nat} {p p2 px : Pos} {env : Env} {x : Str} (hm : Expr.Name x px ∈ ts) (hk : (env.kindOf x == some NameKind.local) = false) : swappedStores [.Tuple ts k p] (.Tuple vs k2 p2) env = pure none := by
  unfold swappedStores
  dsimp only
  split
  · rfl
  · split
    · rfl
    · rw [if_pos]
      rw [Bool.or_eq_true]
      left
      rw [bne_iff_ne]
      intro e
      have := List.filterMap_length_eq_length.mp e _ hm
      simp [hk] at this
theorem sw_pair {a b : Expr} {x y : Str} {px py p p2 : Pos} {k k2 : Nat} {env : Env} (hb : env.blockKind = .function) (hx : env.kindOf x = some .local) (hy : env.kindOf y = some .local) (ne : (x == y) = false) (hl : (px.line == py.line) = true) (na : noStar a = true) (nb : noStar b = true) (hs : swapPair a b = true) :
    swappedStores [.Tuple [.Name x px, .Name y py] k p] (.Tuple [a, b] k2 p2) env = pure (some [x, y]) := by
  have hl' : py.line = px.line := (beq_iff_eq.mp hl).symm
  have q1 : (y == x) = false := by rw [Bool.beq_comm]; exact ne
  unfold swapPair at hs
  rw [Bool.and_eq_true, Bool.not_eq_true', Bool.not_eq_true'] at hs
  unfold swappedStores
  dsimp only
  rw [if_neg, if_neg, if_neg, if_neg, if_neg]
  · simp [hx, hy, Expr.pos, hl']
  · rw [hs.2]; exact Bool.false_ne_true
  · rw [hs.1]; exact Bool.false_ne_true
  · simp [hx, hy, Expr.pos, hl', List.eraseDups_cons, q1]
  · intro h
    rw [List.any_eq_true] at h
    obtain ⟨z, hz, h⟩ := h
    have nz : noStar z = true := by
      simp only [List.mem_cons, List.not_mem_nil, or_false] at hz
      rcases hz with rfl | rfl <;> assumption
    cases z <;> first | exact absurd h Bool.false_ne_true | exact (nomatch (show false = true from nz))
  · simp [hb]
theorem sw_tri {a b d : Expr} {x y z : Str} {px py pz p p2 : Pos} {k k2 : Nat} {env : Env} (hb : env.blockKind = .function) (hx : env.kindOf x = some .local) (hy : env.kindOf y = some .local) (hz : env.kindOf z = some .local) (ne : (x == y) = false) (ne2 : (x == z) = false) (ne3 : (y == z) = false)
    (hl : (px.line == py.line) = true) (hl2 : (px.line == pz.line) = true) (na : noStar a = true) (nb : noStar b = true) (nd : noStar d = true) (hs : swapTri a b d = true) :
    swappedStores [.Tuple [.Name x px, .Name y py, .Name z pz] k p] (.Tuple [a, b, d] k2 p2) env = pure (some [x, y, z]) := by
  have hl' : py.line = px.line := (beq_iff_eq.mp hl).symm
  have hl2' : pz.line = px.line := (beq_iff_eq.mp hl2).symm
  have q1 : (y == x) = false := by rw [Bool.beq_comm]; exact ne
  have q2 : (z == x) = false := by rw [Bool.beq_comm]; exact ne2
  have q3 : (z == y) = false := by rw [Bool.beq_comm]; exact ne3
  unfold swapTri at hs
  rw [Bool.and_eq_true, Bool.not_eq_true', Bool.not_eq_true'] at hs
  unfold swappedStores
  dsimp only
  rw [if_neg, if_neg, if_neg, if_neg, if_neg]
  · simp [hx, hy, hz, Expr.pos, hl', hl2']
  · rw [hs.2]; exact Bool.false_ne_true
  · rw [hs.1]; exact Bool.false_ne_true
  · simp [hx, hy, hz, Expr.pos, hl', hl2', List.eraseDups_cons, q1, q2, q3]
  · intro h
    rw [List.any_eq_true] at h
    obtain ⟨z, hz, h⟩ := h
    have nz : noStar z = true := by
      simp only [List.mem_cons, List.not_mem_nil, or_false] at hz
      rcases hz with rfl | rfl | rfl <;> assumption
    cases z <;> first | exact absurd h Bool.false_ne_true | exact (nomatch (show false = true from nz))
  · simp [hb]
section
variable {X : Cx} {c : Cfg} {k : Nat} {sc : Sc}
theorem blockKind_of (gd : Good c k sc X) : X.env.blockKind = .function := by unfold Env.blockKind; rw [gd.kind]; rfl
theorem kind_loc (gd : Good c k sc X) {x : Str} (h : sc.lookup x = some .local) : X.env.kindOf x = some .local := gd.lc x h
theorem kind_cell (gd : Good c k sc X) {x : Str} (h : sc.lookup x = some .cell) : X.env.kindOf x = some .cell := (gd.cl x h).1
theorem noSwap_ok (gd : Good c k sc X) {tg e : Expr} {g : G} (hg : CG c sc tg g) (h : noSwap sc tg e = true) (l : Nat) : swapsWithSole [tg] e l X.env = pure false := by
  show swapsWith e (some tg) l X.env = pure false
  cases hg with
  | @nm x p i h1 h2 =>
    cases e <;> try rfl
    · rename_i elt gs s q
      have h : (!(match sc.lookup x with | some .local => true | _ => false) || !(p.line == q.line) || s.names.any fun (n, k) => n == x && (k == .local || k == .cell)) = true := h
      unfold swapsWith
      show pure (X.env.blockKind == .function && X.env.kindOf x == some .local && p.line == q.line && !(s.names.any fun (n, k) => n == x && (k == .local || k == .cell))) = pure false
      congr 1
      rcases h2 with h2 | h2
      · rw [h2] at h
        simp only [Bool.not_true, Bool.false_or, Bool.or_eq_true] at h
        rcases h with h | h
        · rw [Bool.not_eq_true'] at h
          rw [h]; simp
        · rw [h]; simp
      · rw [kind_cell gd h2]
        simp
    · cases h
    · cases h
  | two => cases e <;> first | rfl | cases h
  | thr => cases e <;> first | rfl | cases h
  | fou => cases e <;> first | rfl | cases h
theorem yesSwap_ok (gd : Good c k sc X) {y : Str} {py pos : Pos} {elt : Expr} {gs : List Comprehension} {scope : Scope} (h : yesSwap sc (.Name y py) (.ListComp elt gs scope pos) = true) (l : Nat) : swapsWith (.ListComp elt gs scope pos) (some (.Name y py)) l X.env = pure true := by
  have h : ((match sc.lookup y with | some .local => true | _ => false) && (py.line == pos.line) && !(scope.names.any fun (n, k) => n == y && (k == .local || k == .cell))) = true := h
  simp only [Bool.and_eq_true] at h
  obtain ⟨⟨h1, h2⟩, h3⟩ := h
  have h1 : sc.lookup y = some .local := by
    split at h1
    · assumption
    · cases h1
  exact sw_true gd.kind (gd.lc y h1) h2 (by simpa using h3)
theorem cell_at (gd : Good c k sc X) {ts : List Expr} (h : ts.any (nameCell sc) = true) : ∃ x px, Expr.Name x px ∈ ts ∧ (X.env.kindOf x == some NameKind.local) = false := by
  rw [List.any_eq_true] at h
  obtain ⟨t, ht, h⟩ := h
  cases t <;> try exact absurd h Bool.false_ne_true
  rename_i x px
  have h : (match sc.lookup x with | some .cell => true | _ => false) = true := h
  have e : sc.lookup x = some .cell := by
    split at h
    · assumption
    · cases h
  exact ⟨x, px, ht, by rw [kind_cell gd e]; rfl⟩
theorem plainSt_tup (gd : Good c k sc X) {ts vs : List Expr} {k1 k2 : Nat} {p1 p2 : Pos} (h : plainSt sc (.Tuple ts k1 p1) (.Tuple vs k2 p2) = true) : swappedStores [.Tuple ts k1 p1] (.Tuple vs k2 p2) X.env = pure none := by
  have h : (!(ts.length == 2 || ts.length == 3) || vs.all (foldedForSure 8) || ts.any (nameCell sc)) = true := h
  rw [Bool.or_eq_true, Bool.or_eq_true] at h
  rcases h with (h | h) | h
  · exact sw_len (by simpa using h)
  · exact sw_fold h
  · obtain ⟨x, px, hm, hk⟩ := cell_at gd h
    exact sw_cell hm hk
theorem plainSt_ok (gd : Good c k sc X) {tg e : Expr} {g : G} (hg : CG c sc tg g) (h : plainSt sc tg e = true) : swappedStores [tg] e X.env = pure none := by
  cases hg with
  | nm => cases e <;> rfl
  | two ha hb => cases e <;> first | rfl | exact plainSt_tup gd h
  | thr ha hb hd => cases e <;> first | rfl | exact plainSt_tup gd h
  | fou ha hb hd he => cases e <;> first | rfl | exact plainSt_tup gd h
theorem pair_ne {N : List Str} (nd : N.Nodup) {i j : Nat} {x y : Str} (hi : N[i]? = some x) (hj : N[j]? = some y) (ne : (x == y) = false) : i ≠ j := fun e => by
  subst e
  rw [hi] at hj
  cases hj
  simp at ne

/-! ### one statement each -/
variable {n : Nat}
theorem s_asg (gd : Good c k sc X) {tg e : Expr} {pos : Pos} {g : G} {x : E} (hg : CG c sc tg g) (he : Both X e x) (h1 : noSwap sc tg e = true) (h2 : plainSt sc tg e = true) : PS X (.Assign [tg] e pos) (tS X.K n (.asg g x)) := by
  have h0 : (assignEach [tg] X.env).map (·.2) = [assign tg X.env] := by rw [assignEach_cons (noStarG hg)]; rfl
  match tg, g, hg, h1, h2, h0 with
  | _, _, .nm (x := y) (i := i) hi hl, h1, h2, h0 =>
    refine PS.imp (ps_asg (he.1 false) (pg_name (i := i) (by rw [gd.hN]; exact gd.nd) (by rw [gd.hN]; exact hi) (gd.loc hl).1 (gd.loc hl).2) (noSwap_ok gd (.nm hi hl) h1 _) (plainSt_ok gd (.nm hi hl) h2) h0) fun D σ H ⟨O, H0, A, ρ, out, ok, ev, q⟩ => ?_
    simp only [evS, asgR] at ev
    obtain ⟨r, e1, ev2⟩ := bind_some ev
    cases ev2
    refine ⟨O, H0, A, ρ, r, ok, e1, fun v H1 s1 h1 => ?_⟩
    obtain ⟨A', ok', st⟩ := ok.store s1 h1.toR
    exact q A' _ H1 ok' st
  | _, _, .two ha hb, h1, h2, h0 =>
    refine PS.imp (ps_asg (he.1 false) (soundG gd (.two ha hb)) (noSwap_ok gd (.two ha hb) h1 _) (plainSt_ok gd (.two ha hb) h2) h0) fun D σ H ⟨O, H0, A, ρ, out, ok, ev, q⟩ => ?_
    simp only [evS, asgR] at ev
    obtain ⟨r, e1, ev2⟩ := bind_some ev
    obtain ⟨ρ', e2, e3⟩ := map_some ev2
    subst e3
    exact ⟨O, H0, A, ρ, r, ok, e1, fun v H1 s1 h1 => ⟨O, H0, A, ρ, ρ', r.2, ok.same s1, ok.down s1 h1.toR, e2, fun σ' ok' _ => q A σ' H1 ok' (Stp.same s1)⟩⟩
  | _, _, .thr ha hb hd, h1, h2, h0 =>
    refine PS.imp (ps_asg (he.1 false) (soundG gd (.thr ha hb hd)) (noSwap_ok gd (.thr ha hb hd) h1 _) (plainSt_ok gd (.thr ha hb hd) h2) h0) fun D σ H ⟨O, H0, A, ρ, out, ok, ev, q⟩ => ?_
    simp only [evS, asgR] at ev
    obtain ⟨r, e1, ev2⟩ := bind_some ev
    obtain ⟨ρ', e2, e3⟩ := map_some ev2
    subst e3
    exact ⟨O, H0, A, ρ, r, ok, e1, fun v H1 s1 h1 => ⟨O, H0, A, ρ, ρ', r.2, ok.same s1, ok.down s1 h1.toR, e2, fun σ' ok' _ => q A σ' H1 ok' (Stp.same s1)⟩⟩
  | _, _, .fou ha hb hd he', h1, h2, h0 =>
    refine PS.imp (ps_asg (he.1 false) (soundG gd (.fou ha hb hd he')) (noSwap_ok gd (.fou ha hb hd he') h1 _) (plainSt_ok gd (.fou ha hb hd he') h2) h0) fun D σ H ⟨O, H0, A, ρ, out, ok, ev, q⟩ => ?_
    simp only [evS, asgR] at ev
    obtain ⟨r, e1, ev2⟩ := bind_some ev
    obtain ⟨ρ', e2, e3⟩ := map_some ev2
    subst e3
    exact ⟨O, H0, A, ρ, r, ok, e1, fun v H1 s1 h1 => ⟨O, H0, A, ρ, ρ', r.2, ok.same s1, ok.down s1 h1.toR, e2, fun σ' ok' _ => q A σ' H1 ok' (Stp.same s1)⟩⟩
/-- the new list's address -/
def newOf : R → V → Set0
  | (true, _), .ref a => fun x => x = a
  | _, _ => fun _ => False
/-- the second of two values, the first one standing by -/
theorem Ok.beside {K : PySem.W.Frag} {O : Set0} {H0 H H1 : Hp} {A : Nat → Option Addr} {σ : L2.St} {ρ : Sl} (ok : Ok K O H0 A H σ ρ) (s : Same H H1) {v : V} {r : R} (h : RpR K H H1 (Ow O A) false v r) (i : Nat) :
    ∃ O' H0' A1, Ok K O' H0' A H1 σ ρ ∧ Ok K O H0 A1 H1 (σ.set i (some v)) (ρ.set i (some r)) ∧ Stp O A H A1 H1 ∧ (∀ a, Ow O A1 a → Ow O A a ∨ newOf r v a) ∧ ∀ a, Ow O A a ∨ newOf r v a → Ow O' A a := by
  obtain ⟨fl, d⟩ := r
  cases fl with
  | false => exact ⟨O, H0, A, ok.same s, (ok.same s).set h, Stp.same s, fun _ z => .inl z, fun _ z => z.elim _root_.id fun z => (show False from z).elim⟩
  | true =>
    obtain ⟨a, xs, ds, e1, e2, e3, e4, h'⟩ := h
    have e2 : d = .list ds := e2
    subst e1 e2
    have lem : ∀ x, Ow O (fun j => if j = i then some a else A j) x → Ow O A x ∨ x = a := fun x z => by
      rcases z with z | ⟨j, z⟩
      · exact .inl (.inl z)
      · by_cases hj : j = i
        · simp only [hj, if_true] at z
          exact .inr (Option.some.inj z).symm
        · simp only [hj, if_false] at z
          exact .inl (.inr ⟨j, z⟩)
    refine ⟨_, _, _, ok.with s e4 e3, ok.setOwn s e4 e3 h', ⟨fun _ _ e _ => s _ _ e, fun x z => (lem x z).elim .inl fun e => .inr (by rw [e]; exact e4)⟩, lem, fun x z => ?_⟩
    rcases z with (z | z) | z
    · exact .inl (.inl z)
    · exact .inr z
    · exact .inl (.inr z)
theorem RpR.fewer {K : PySem.W.Frag} {H H1 : Hp} {P P' : Set0} {v : V} {r : R} (h : RpR K H H1 P false v r) (hp : ∀ a, P' a → P a) : RpR K H H1 P' false v r := by
  obtain ⟨fl, d⟩ := r
  cases fl with
  | false => exact Rp.less h hp
  | true =>
    obtain ⟨a, xs, ds, e1, e2, e3, e4, h⟩ := h
    exact ⟨a, xs, ds, e1, e2, e3, e4, h.less fun x z => z.elim (fun z => .inl (hp x z)) .inr⟩
theorem s_par (gd : Good c k sc X) {x y : Str} {px py pt pt2 pos : Pos} {kt k2 i j : Nat} {a b : Expr} {xa xb : E} (hi : c.N[i]? = some x) (hj : c.N[j]? = some y) (hx : sc.lookup x = some .local) (hy : sc.lookup y = some .local) (ne : (x == y) = false) (hl : (px.line == py.line) = true)
    (ha : Both X a xa) (hb : Both X b xb) (na : noStar a = true) (nb : noStar b = true) (hs : swapPair a b = true) : PS X (.Assign [.Tuple [.Name x px, .Name y py] kt pt] (.Tuple [a, b] k2 pt2) pos) (tS X.K n (.par i j xa xb)) := by
  refine PS.imp (ps_par gd.calm (by rw [gd.hN]; exact gd.nd) (by rw [gd.hN]; exact hi) (by rw [gd.hN]; exact hj) (pair_ne gd.nd hi hj ne) (gd.lc x hx) (gd.lc y hy) (pa_cons (ha.1 false) (pa_cons (hb.1 false) pa_nil (starEach_cons nb)) (starEach_cons na))
    (sw_pair (blockKind_of gd) (kind_loc gd hx) (kind_loc gd hy) ne hl na nb hs)) fun D σ H ⟨O, H0, A, ρ, out, ok, ev, q⟩ => ?_
  simp only [evS] at ev
  obtain ⟨r1, e1, ev2⟩ := bind_some ev
  obtain ⟨r2, e2, e3⟩ := map_some ev2
  subst e3
  refine ⟨O, H0, A, ρ, r1, ok, e1, fun v1 H1 s1 h1 => ?_⟩
  obtain ⟨O', H0', A1, okB, ok1, st, sub, sup⟩ := ok.beside s1 h1.toR i
  refine ⟨O', H0', A, ρ, r2, okB, e2, fun v2 H2 s2 h2 => ⟨v1, v2, rfl, ?_⟩⟩
  obtain ⟨A2, ok2, st2⟩ := ok1.store (i := j) s2 (h2.toR.fewer fun a z => sup a (sub a z))
  exact q A2 _ H2 ok2 (st.trans st2)
theorem s_par3 (gd : Good c k sc X) {x y z : Str} {px py pz pt pt2 pos : Pos} {kt k2 i j l : Nat} {a b d : Expr} {xa xb xd : E} (hi : c.N[i]? = some x) (hj : c.N[j]? = some y) (hl : c.N[l]? = some z) (hx : sc.lookup x = some .local) (hy : sc.lookup y = some .local) (hz : sc.lookup z = some .local)
    (ne : (x == y) = false) (ne2 : (x == z) = false) (ne3 : (y == z) = false) (hl1 : (px.line == py.line) = true) (hl2 : (px.line == pz.line) = true)
    (ha : Both X a xa) (hb : Both X b xb) (hd : Both X d xd) (na : noStar a = true) (nb : noStar b = true) (nd : noStar d = true) (hs : swapTri a b d = true) : PS X (.Assign [.Tuple [.Name x px, .Name y py, .Name z pz] kt pt] (.Tuple [a, b, d] k2 pt2) pos) (tS X.K n (.par3 i j l xa xb xd)) := by
  refine PS.imp (ps_par3 gd.calm (by rw [gd.hN]; exact gd.nd) (by rw [gd.hN]; exact hi) (by rw [gd.hN]; exact hj) (by rw [gd.hN]; exact hl) (pair_ne gd.nd hi hj ne) (pair_ne gd.nd hi hl ne2) (pair_ne gd.nd hj hl ne3) (gd.lc x hx) (gd.lc y hy) (gd.lc z hz)
    (pa_cons (ha.1 false) (pa_cons (hb.1 false) (pa_cons (hd.1 false) pa_nil (starEach_cons nd)) (starEach_cons nb)) (starEach_cons na))
    (sw_tri (blockKind_of gd) (kind_loc gd hx) (kind_loc gd hy) (kind_loc gd hz) ne ne2 ne3 hl1 hl2 na nb nd hs)) fun D σ H ⟨O, H0, A, ρ, out, ok, ev, q⟩ => ?_
  simp only [evS] at ev
  obtain ⟨r1, e1, ev2⟩ := bind_some ev
  obtain ⟨r2, e2, ev3⟩ := bind_some ev2
  obtain ⟨r3, e3, e4⟩ := map_some ev3
  subst e4
  refine ⟨O, H0, A, ρ, r1, ok, e1, fun v1 H1 s1 h1 => ?_⟩
  obtain ⟨O', H0', A1, okB, ok1, st, sub, sup⟩ := ok.beside s1 h1.toR i
  refine ⟨O', H0', A, ρ, r2, okB, e2, fun v2 H2 s2 h2 => ?_⟩
  obtain ⟨O2, H02, _, okC, _, _, _, sup2⟩ := okB.beside s2 h2.toR j
  obtain ⟨_, _, A2, _, ok2, st2, sub3, _⟩ := ok1.beside s2 (h2.toR.fewer fun a z => sup a (sub a z)) j
  refine ⟨O2, H02, A, ρ, r3, okC, e3, fun v3 H3 s3 h3 => ⟨v1, v2, v3, rfl, ?_⟩⟩
  obtain ⟨A3, ok3, st3⟩ := ok2.store (i := l) s3 (h3.toR.fewer fun a z => sup2 a ((sub3 a z).elim (fun z => .inl (sup a (sub a z))) .inr))
  exact q A3 _ H3 ok3 (st.trans (st2.trans st3))
/-- methods of an owned list -/
theorem s_app (gd : Good c k sc X) {x : Str} {px apos cpos pos : Pos} {e : Expr} {i : Nat} {y : E} (hi : c.N[i]? = some x) (hv : vis sc x) (hd : (x == ("__debug__" : Str)) = false) (hcd : (x == ("__classdict__" : Str)) = false) (he : Both X e y) (ne : noStar e = true) (hl : (apos.endLine == cpos.line) = true) :
    PS X (.Expr (.Call (.Attribute (.Name x px) "append" apos) [e] [] cpos) pos) (tS X.K n (.app i y)) := by
  have h1 : starEach [e] X.env = (false, eval e X.env) :: starEach [] X.env := starEach_cons ne
  refine PS.imp (ps_expr (pe_bm PySem.F.plainAttrs_list PySem.F.slot_list_append PySem.F.type_list_append mt_append (pe_var (i := i) (by rw [gd.hN]; exact hi) (gd.vis hv) hd hcd) (pa_cons (he.1 false) pa_nil h1) rfl (by rw [h1]; rfl) hl h1 rfl)) fun D σ H ⟨O, H0, A, ρ, out, ok, ev, q⟩ => ?_
  simp only [evS] at ev
  obtain ⟨ds, e1, ev2⟩ := bind_some ev
  obtain ⟨r, e2, ev3⟩ := bind_some ev2
  split at ev3
  case isFalse => cases ev3
  rename_i hz
  cases ev3
  obtain ⟨a, xs, hA, hs, hH, hr⟩ := ok.owned e1
  refine ⟨.ref a, hs, .inl ⟨rfl, xs, .inl (.inl hH)⟩, ⟨O, H0, A, ρ, r, ok, e2, fun v H1 s1 h1 => ?_⟩⟩
  refine ⟨a, xs, v, rfl, rfl, s1 _ _ hH, ?_, ?_⟩
  · have := lenOk_le hz
    have l := hr.length
    omega
  · have ok1 := ok.same s1
    exact q A σ _ (ok1.upd hA hs ((hr.same s1).append (.one (ok.down s1 h1.toR)))) ((Stp.same s1).trans (Stp.upd hA))
theorem s_ext (gd : Good c k sc X) {x : Str} {px apos cpos pos : Pos} {e : Expr} {i : Nat} {y : E} (hi : c.N[i]? = some x) (hv : vis sc x) (hd : (x == ("__debug__" : Str)) = false) (hcd : (x == ("__classdict__" : Str)) = false) (he : Both X e y) (ne : noStar e = true) (hl : (apos.endLine == cpos.line) = true) :
    PS X (.Expr (.Call (.Attribute (.Name x px) "extend" apos) [e] [] cpos) pos) (tS X.K n (.ext i y)) := by
  have h1 : starEach [e] X.env = (false, eval e X.env) :: starEach [] X.env := starEach_cons ne
  refine PS.imp (ps_expr (pe_bm PySem.F.plainAttrs_list PySem.F.slot_list_extend PySem.F.type_list_extend mt_extendS (pe_var (i := i) (by rw [gd.hN]; exact hi) (gd.vis hv) hd hcd) (pa_cons (he.1 false) pa_nil h1) rfl (by rw [h1]; rfl) hl h1 rfl)) fun D σ H ⟨O, H0, A, ρ, out, ok, ev, q⟩ => ?_
  simp only [evS] at ev
  obtain ⟨ds, e1, ev2⟩ := bind_some ev
  obtain ⟨r, e2, ev3⟩ := bind_some ev2
  obtain ⟨a, xs, hA, hs, hH, hr⟩ := ok.owned e1
  refine ⟨.ref a, hs, .inl ⟨rfl, xs, .inl (.inl hH)⟩, ⟨O, H0, A, ρ, r, ok, e2, fun v H1 s1 h1 => ?_⟩⟩
  have hd := ok.down s1 h1.toR
  obtain ⟨fl, d⟩ := r
  cases d <;> try cases ev3
  case list es =>
    have ev3 : (if lenOk (ds.length + es.length) then some (Out.nx (ρ.set i (some (true, .list (ds ++ es))))) else none) = some out := ev3
    split at ev3
    case isFalse => cases ev3
    rename_i hz
    cases ev3
    cases hd with
    | @lst b ys _ h2 h3 h4 =>
      refine ⟨a, b, xs, ys, rfl, rfl, s1 _ _ hH, .inl h2, ?_, ?_⟩
      · rw [hr.length, h4.length]; exact lenOk_le hz
      · have ok1 := ok.same s1
        exact q A σ _ (ok1.upd hA hs ((hr.same s1).append h4)) ((Stp.same s1).trans (Stp.upd hA))
  case tuple es =>
    have ev3 : (if lenOk (ds.length + es.length) then some (Out.nx (ρ.set i (some (true, .list (ds ++ es))))) else none) = some out := ev3
    split at ev3
    case isFalse => cases ev3
    rename_i hz
    cases ev3
    obtain ⟨b, ys, rfl, h2, h4⟩ := RpB.tuple (.inl hd)
    refine ⟨a, b, xs, ys, rfl, rfl, s1 _ _ hH, .inr h2, ?_, ?_⟩
    · rw [hr.length, h4.length]; exact lenOk_le hz
    · have ok1 := ok.same s1
      exact q A σ _ (ok1.upd hA hs ((hr.same s1).append h4)) ((Stp.same s1).trans (Stp.upd hA))
theorem s_ins (gd : Good c k sc X) {x : Str} {px apos cpos pos : Pos} {a e : Expr} {i : Nat} {z y : E} (hi : c.N[i]? = some x) (hv : vis sc x) (hd : (x == ("__debug__" : Str)) = false) (hcd : (x == ("__classdict__" : Str)) = false) (ha : Both X a z) (he : Both X e y) (na : noStar a = true) (ne : noStar e = true) (hl : (apos.endLine == cpos.line) = true) :
    PS X (.Expr (.Call (.Attribute (.Name x px) "insert" apos) [a, e] [] cpos) pos) (tS X.K n (.ins i z y)) := by
  have h1 : starEach [e] X.env = (false, eval e X.env) :: starEach [] X.env := starEach_cons ne
  have h2 : starEach [a, e] X.env = (false, eval a X.env) :: starEach [e] X.env := starEach_cons na
  refine PS.imp (ps_expr (pe_bm PySem.F.plainAttrs_list PySem.F.slot_list_insert PySem.F.type_list_insert mt_insert (pe_var (i := i) (by rw [gd.hN]; exact hi) (gd.vis hv) hd hcd) (pa_cons (ha.1 true) (pa_cons (he.1 false) pa_nil h1) h2) rfl (by rw [h2, h1]; rfl) hl h2 (by rw [h1]; rfl))) fun D σ H ⟨O, H0, A, ρ, out, ok, ev, q⟩ => ?_
  simp only [evS] at ev
  obtain ⟨ds, e1, ev2⟩ := bind_some ev
  obtain ⟨r1, e2, ev3⟩ := bind_some ev2
  obtain ⟨r, e3, ev4⟩ := bind_some ev3
  obtain ⟨p, xs, hA, hs, hH, hr⟩ := ok.owned e1
  refine ⟨.ref p, hs, .inl ⟨rfl, xs, .inl (.inl hH)⟩, ⟨O, H0, A, ρ, r1, ok, e2, fun v0 H1 s1 h1 => ⟨O, H0, A, ρ, r, ok.same s1, e3, fun v H2 s2 h2 => ?_⟩⟩⟩
  have hv0 := rpB_of ok s1 h1
  obtain ⟨fl, d⟩ := r1
  cases d <;> try cases ev4
  rename_i j
  have ev4 : (if decide (0 ≤ j) && decide (j < 1000000000) && lenOk (ds.length + 1) then some (Out.nx (ρ.set i (some (true, .list (ds.take j.toNat ++ [r.2] ++ ds.drop j.toNat))))) else none) = some out := ev4
  split at ev4
  case isFalse => cases ev4
  rename_i hz
  cases ev4
  rw [Bool.and_eq_true, Bool.and_eq_true] at hz
  obtain ⟨⟨z1, z2⟩, z3⟩ := hz
  have z1 := of_decide_eq_true z1
  have z2 := of_decide_eq_true z2
  have z3 := lenOk_le z3
  have := hv0.int
  subst this
  have hr2 := (hr.same s1).same s2
  refine ⟨p, xs, j, v, rfl, rfl, s2 _ _ (s1 _ _ hH), ?_, z1, by omega, ?_⟩
  · have l := hr.length
    omega
  · have ok2 := (ok.same s1).same s2
    exact q A σ _ (ok2.upd hA hs (((hr2.take _).append (.one ((ok.same s1).down s2 h2.toR))).append (hr2.drop _))) ((Stp.same (s1.trans s2)).trans (Stp.upd hA))
theorem s_put (gd : Good c k sc X) {x : Str} {px p pos : Pos} {a e : Expr} {i : Nat} {z y : E} (hi : c.N[i]? = some x) (hv : vis sc x) (hd : (x == ("__debug__" : Str)) = false) (hcd : (x == ("__classdict__" : Str)) = false) (ha : Both X a z) (he : Both X e y) (na : noSlice a = true) (ne : noComp e = true) :
    PS X (.Assign [.Subscript (.Name x px) a p] e pos) (tS X.K n (.put i z y)) := by
  have hrel : ∀ v, assign (.Subscript (.Name x px) a p) X.env v = (do
      let ov ← holding [v] (eval (.Name x px) X.env)
      let iv ← holding [v, ov] (eval a X.env)
      standAt p
      holding [v, ov, iv] (setItem ov iv v)
      release [v, ov, iv] []) := by
    intro v
    cases a <;> first | rfl | cases na
  refine PS.imp (ps_asg (he.1 false) (pg_sub (pe_var (i := i) (by rw [gd.hN]; exact hi) (gd.vis hv) hd hcd) (ha.1 true) set_list hrel) (by cases e <;> first | rfl | cases ne) (by cases e <;> rfl) rfl) fun D σ H ⟨O, H0, A, ρ, out, ok, ev, q⟩ => ?_
  simp only [evS] at ev
  obtain ⟨r, e1, ev2⟩ := bind_some ev
  obtain ⟨ds, e2, ev3⟩ := bind_some ev2
  obtain ⟨r1, e3, ev4⟩ := bind_some ev3
  obtain ⟨b, xs, hA, hs, hH, hr⟩ := ok.owned e2
  refine ⟨O, H0, A, ρ, r, ok, e1, fun v H1 s1 h1 => ⟨.ref b, hs, ⟨O, H0, A, ρ, r1, ok.same s1, e3, fun v1 H2 s2 h2 => ?_⟩⟩⟩
  have hv1 := rpB_of (ok.same s1) s2 h2
  obtain ⟨fl, d⟩ := r1
  cases d <;> try cases ev4
  rename_i j
  have ev4 : ((putD ds j r.2).map fun ds' => Out.nx (ρ.set i (some (true, .list ds')))) = some out := ev4
  obtain ⟨ds', e5, e6⟩ := map_some ev4
  subst e6
  unfold putD at e5
  obtain ⟨m, e6, e7⟩ := map_some e5
  subst e7
  have := hv1.int
  subst this
  have hr2 := (hr.same s1).same s2
  refine ⟨b, xs, j, m, rfl, rfl, s2 _ _ (s1 _ _ hH), by rw [hr.length]; exact e6, ?_⟩
  have ok2 := (ok.same s1).same s2
  exact q A σ _ (ok2.upd hA hs (RpA.set ((ok.down s1 h1.toR).same s2) m hr2)) ((Stp.same (s1.trans s2)).trans (Stp.upd hA))
theorem s_pop (gd : Good c k sc X) {x : Str} {px apos cpos pos : Pos} {tg : Expr} {g : G} {i : Nat} (hg : CG c sc tg g) (hi : c.N[i]? = some x) (hv : vis sc x) (hd : (x == ("__debug__" : Str)) = false) (hcd : (x == ("__classdict__" : Str)) = false) (hl : (apos.endLine == cpos.line) = true) :
    PS X (.Assign [tg] (.Call (.Attribute (.Name x px) "pop" apos) [] [] cpos) pos) (tS X.K n (.pop g i)) := by
  have h0 : (assignEach [tg] X.env).map (·.2) = [assign tg X.env] := by rw [assignEach_cons (noStarG hg)]; rfl
  refine PS.imp (ps_asg (pe_bm0 PySem.F.plainAttrs_list PySem.F.slot_list_pop PySem.F.type_list_pop mt_pop (pe_var (i := i) (by rw [gd.hN]; exact hi) (gd.vis hv) hd hcd) rfl hl) (soundG gd hg) (by cases hg <;> rfl) (by cases hg <;> rfl) h0) fun D σ H ⟨O, H0, A, ρ, out, ok, ev, q⟩ => ?_
  simp only [evS] at ev
  obtain ⟨ds, e1, ev2⟩ := bind_some ev
  obtain ⟨a, xs, hA, hs, hH, hr⟩ := ok.owned e1
  split at ev2
  · cases ev2
  · rename_i d e2
    obtain ⟨ρ', e3, e4⟩ := map_some ev2
    subst e4
    rw [List.getLast?_eq_getElem?] at e2
    obtain ⟨v, hv, hrv⟩ := hr.get e2
    refine ⟨.ref a, hs, .inl ⟨rfl, xs, .inl (.inl hH)⟩, a, xs, v, rfl, rfl, hH, by rw [hr.length]; exact hv, ?_⟩
    have ok1 := ok.upd hA hs hr.dropLast
    have hv1 : Rp X.K (L2.upd H a (.lst xs.dropLast)) (Ow O A) v d := Rp.keep (Stp.upd hA).1 (fun _ z => .inl z) _ _ hrv
    exact ⟨O, H0, A, _, ρ', d, ok1, hv1, e3, fun σ' ok' _ => q A σ' _ ok' (Stp.upd hA)⟩
/-- return -/
theorem s_ret (gd : Good c k sc X) {e : Expr} {pos : Pos} {x : E} (hc : CE c sc e x) (he : Both X e x) : PS X (.Return (some e) pos) (tS X.K n (.ret x)) := by
  have gen : (∀ i, x ≠ .v i) → PS X (.Return (some e) pos) (tS X.K n (.ret x)) := fun hx => by
    refine PS.imp (ps_ret (he.1 false)) fun D σ H ⟨O, H0, A, ρ, out, ok, ev, q⟩ => ?_
    have ev' : (evE x false ρ).map Out.rt = some out := by
      simp only [evS] at ev
      cases x <;> first | exact ev | exact absurd rfl (hx _)
    obtain ⟨r, e1, e2⟩ := map_some ev'
    subst e2
    exact ⟨O, H0, A, ρ, r, ok, e1, fun v H1 s1 h1 => q v H1 (ok.grow.trans s1) (RpR.up ok.grow (h1.toR.fewer fun a z => .inl z))⟩
  cases hc
  case name =>
    rename_i y py i h1 h3 h4 h2
    refine PS.imp (ps_ret (pe_var (i := i) (by rw [gd.hN]; exact h1) (gd.vis h2) h3 h4)) fun D σ H ⟨O, H0, A, ρ, out, ok, ev, q⟩ => ?_
    simp only [evS] at ev
    obtain ⟨r, e1, e2⟩ := map_some ev
    subst e2
    have e1 : (match ρ[i]? with | some (some r) => some r | _ => none) = some r := e1
    split at e1
    · rename_i r' e3
      cases e1
      obtain ⟨v, e4, h⟩ := ok.val i _ e3
      refine ⟨v, e4, q v H ok.grow ?_⟩
      obtain ⟨fl, d⟩ := r
      cases fl with
      | false => exact Rp.less h fun a z => .inl z
      | true =>
        obtain ⟨a, xs, ds, q1, q2, q3, q4, h⟩ := h
        exact ⟨a, xs, ds, q2, q3, q4, ok.new i a q1, h.less fun b z => z.elim .inl fun z => .inr ⟨i, by rw [z]; exact q1⟩⟩
    · cases e1
  case and h => cases h; exact gen fun i => fun z => nomatch z
  case or h => cases h; exact gen fun i => fun z => nomatch z
  all_goals exact gen fun i => fun z => nomatch z
theorem s_retN {pos : Pos} : PS X (.Return none pos) (tS X.K n .retN) := by
  refine PS.imp ps_retN fun D σ H ⟨O, H0, A, ρ, out, ok, ev, q⟩ => ?_
  simp only [evS] at ev
  cases ev
  exact q .non H ok.grow .non
/-- blocks -/
theorem ss_nil : PSs X [] (tSs X.K n .nil) := by
  refine PSs.imp pss_nil fun D σ H ⟨O, H0, A, ρ, out, ok, ev, q⟩ => ?_
  simp only [evSs] at ev
  cases ev
  exact q A σ H ok Stp.refl
theorem ss_cons {st : Stmt} {sts : List Stmt} {s : S} {ss : Ss} (h1 : PS X st (tS X.K n s)) (h2 : PSs X sts (tSs X.K n ss)) : PSs X (st :: sts) (tSs X.K n (.cons s ss)) := by
  refine PSs.imp (pss_cons h1 h2) fun D σ H ⟨O, H0, A, ρ, out, ok, ev, q⟩ => ?_
  simp only [evSs] at ev
  split at ev
  · rename_i ρ2 e
    exact ⟨O, H0, A, ρ, _, ok, e, fun A' σ' H' ok' st => ⟨O, H0, A', ρ2, out, ok', ev, q.later st⟩⟩
  · rename_i hne
    refine ⟨O, H0, A, ρ, out, ok, ev, ?_⟩
    cases out with
    | nx ρ' => exact absurd ev (hne ρ')
    | bk ρ' => exact q
    | ct ρ' => exact q
    | rt r => exact q
theorem ss_share {sts : List Stmt} {i : Nat} {ss : Ss} (h2 : PSs X sts (tSs X.K n ss)) : PSs X sts (tSs X.K n (.cons (.share i) ss)) := by
  refine PSs.imp h2 fun D σ H ⟨O, H0, A, ρ, out, ok, ev, q⟩ => ?_
  simp only [evSs, evS] at ev
  cases e : ρ[i]? with
  | none =>
    rw [e] at ev
    exact ⟨O, H0, A, ρ, out, ok, ev, q⟩
  | some o =>
    rw [e] at ev
    match o, e, ev with
    | none, e, ev => exact ⟨O, H0, A, ρ, out, ok, ev, q⟩
    | some (false, d), e, ev => exact ⟨O, H0, A, ρ, out, ok, ev, q⟩
    | some (true, d), e, ev =>
      refine ⟨O, H0, _, _, out, ok.share e, ev, q.later ⟨fun _ _ e _ => e, fun x z => ?_⟩⟩
      rcases z with z | ⟨j, z⟩
      · exact .inl (.inl z)
      · by_cases hj : j = i
        · simp only [hj, if_true] at z; cases z
        · simp only [hj, if_false] at z
          exact .inl (.inr ⟨j, z⟩)
theorem s_if {t : Expr} {a b : List Stmt} {pos : Pos} {z : E} {xa xb : Ss} (ht : Both X t z) (ha : PSs X a (tSs X.K n xa)) (hb : PSs X b (tSs X.K n xb)) : PS X (.If t a b pos) (tS X.K n (.ite z xa xb)) := by
  refine PS.imp (ps_if ht.2 ha hb) fun D σ H ⟨O, H0, A, ρ, out, ok, ev, q⟩ => ?_
  simp only [evS] at ev
  obtain ⟨kk, e1, ev2⟩ := bind_some ev
  refine ⟨O, H0, A, ρ, kk, ok, e1, fun H1 s1 => ?_⟩
  cases kk with
  | true => exact ⟨O, H0, A, ρ, out, ok.same s1, ev2, q.later (Stp.same s1)⟩
  | false => exact ⟨O, H0, A, ρ, out, ok.same s1, ev2, q.later (Stp.same s1)⟩
theorem s_for (gd : Good c k sc X) {tg iter : Expr} {body : List Stmt} {pos : Pos} {g : G} {it : I} {b : Ss} (hg : CG c sc tg g) (hi : ∀ b, PI X tg iter (tI X.K it b)) (hs : noSet iter = true) (hb : PSs X body (tSs X.K n b)) : PS X (.For tg iter body [] pos) (tS X.K n (.for_ g it b)) := by
  refine PS.imp (ps_for gd.pass gd.calm (hi false) (soundG gd hg) hb (noset_of hs X.env)) fun D σ H ⟨O, H0, A, ρ, out, ok, ev, q⟩ => ?_
  simp only [evS] at ev
  obtain ⟨ds, e1, ev2⟩ := bind_some ev
  generalize hF : (fun ρ => evSs n b ρ) = F at ev2
  refine ⟨O, H0, A, ρ, ds, ok, e1, fun J H1 s1 _ wk => ?_⟩
  have st0 : Stp O A H A H1 := Stp.same s1
  refine ⟨fun i m σ' H' => m = ds.length - i ∧ i ≤ ds.length ∧ ∃ A' ρ', Ok X.K O H0 A' H' σ' ρ' ∧ Stp O A H1 A' H' ∧ forGo g F (ds.drop i) ρ' = some out, ⟨ds.length, rfl, Nat.zero_le _, A, ρ, ok.same s1, Stp.refl, ev2⟩, ?_⟩
  rintro i m σ' H' ⟨rfl, hil, A', ρ', ok', st, ef⟩
  have hk : KpOf false H1 O (Ow O A) H' := fun a o e n => st.1 a o e n
  by_cases hlt : i < ds.length
  · have hdr : ds.drop i = ds[i] :: ds.drop (i + 1) := List.drop_eq_getElem_cons hlt
    rw [hdr] at ef
    obtain ⟨go, yld⟩ := (wk H' hk i).1 _ (List.getElem?_eq_getElem hlt)
    refine .inr ⟨go, fun σ' H' => ∃ A' ρ', Ok X.K O H0 A' H' σ' ρ' ∧ Stp O A H1 A' H' ∧ forGo g F (ds.drop (i + 1)) ρ' = some out, fun σ' H' h' => ⟨ds.length - (i + 1), by omega, rfl, hlt, h'⟩, fun v0 H2 hy => ?_⟩
    obtain ⟨e6, hx⟩ := yld v0 H2 hy
    subst e6
    have hx' : Rp X.K H2 (Ow O A') v0 ds[i] := Rp.keep st.1 st.2 _ _ hx
    unfold forGo at ef
    split at ef
    · cases ef
    · rename_i ρ1 ea
      refine ⟨O, H0, A', ρ', ρ1, ds[i], ok', hx', ea, fun σ2 ok2 _ => ?_⟩
      have fin : ∀ {out2 : Out}, F ρ1 = some out2 → Post X.K O H0 A' H2 { D with nx := fun σ' H' => ∃ A' ρ', Ok X.K O H0 A' H' σ' ρ' ∧ Stp O A H1 A' H' ∧ forGo g F (ds.drop (i + 1)) ρ' = some out, ct := fun σ' H' => ∃ A' ρ', Ok X.K O H0 A' H' σ' ρ' ∧ Stp O A H1 A' H' ∧ forGo g F (ds.drop (i + 1)) ρ' = some out, bk := D.nx } out2 →
          tSs X.K n b { D with nx := fun σ' H' => ∃ A' ρ', Ok X.K O H0 A' H' σ' ρ' ∧ Stp O A H1 A' H' ∧ forGo g F (ds.drop (i + 1)) ρ' = some out, ct := fun σ' H' => ∃ A' ρ', Ok X.K O H0 A' H' σ' ρ' ∧ Stp O A H1 A' H' ∧ forGo g F (ds.drop (i + 1)) ρ' = some out, bk := D.nx } σ2 H2 :=
        fun {out2} e p => ⟨O, H0, A', ρ1, out2, ok2, by rw [← hF] at e; exact e, p⟩
      split at ef
      · rename_i ρ2 eb
        exact fin eb fun A2 σ3 H3 ok3 st3 => ⟨A2, ρ2, ok3, st.trans st3, ef⟩
      · rename_i ρ2 eb
        exact fin eb fun A2 σ3 H3 ok3 st3 => ⟨A2, ρ2, ok3, st.trans st3, ef⟩
      · rename_i ρ2 eb
        cases ef
        exact fin eb fun A2 σ3 H3 ok3 st3 => q A2 σ3 H3 ok3 (st0.trans (st.trans st3))
      · rename_i r eb
        cases ef
        exact fin eb q
      · cases ef
  · have hi' : i = ds.length := by omega
    subst hi'
    rw [List.drop_length] at ef
    cases ef
    exact .inl ⟨(wk H' hk _).2 (Nat.le_refl _), q A' σ' H' ok' (st0.trans st)⟩
theorem s_while (gd : Good c k sc X) {t : Expr} {body : List Stmt} {pos : Pos} {z : E} {b : Ss} (ht : Both X t z) (hb : PSs X body (tSs X.K n b)) : PS X (.While t body [] pos) (tS X.K n (.while_ z b)) := by
  refine PS.imp (ps_while gd.pass ht.2 hb) fun D σ H ⟨O, H0, A, ρ, out, ok, ev, q⟩ => ?_
  simp only [evS] at ev
  generalize hF : (fun ρ => evSs n b ρ) = F at ev
  refine ⟨fun m σ' H' => ∃ A' ρ', Ok X.K O H0 A' H' σ' ρ' ∧ Stp O A H A' H' ∧ whileGo (fun ρ => evT z ρ) F m ρ' = some out, ⟨n, A, ρ, ok, Stp.refl, ev⟩, ?_⟩
  rintro m σ' H' ⟨A', ρ', ok', st, ef⟩
  cases m with
  | zero => cases ef
  | succ m =>
    unfold whileGo at ef
    split at ef
    · cases ef
    · rename_i ec
      cases ef
      exact ⟨O, H0, A', ρ', false, ok', ec, fun H1 s1 => q A' σ' H1 (ok'.same s1) (st.trans (Stp.same s1))⟩
    · rename_i ec
      refine ⟨O, H0, A', ρ', true, ok', ec, fun H1 s1 => ?_⟩
      refine ⟨fun σ2 H2 => ∃ A2 ρ2, Ok X.K O H0 A2 H2 σ2 ρ2 ∧ Stp O A H A2 H2 ∧ whileGo (fun ρ => evT z ρ) F m ρ2 = some out, fun σ2 H2 h => ⟨m, Nat.lt_succ_self m, h⟩, ?_⟩
      have ok1 := ok'.same s1
      have st1 := st.trans (Stp.same s1)
      have fin : ∀ {out2 : Out}, F ρ' = some out2 → Post X.K O H0 A' H1 { D with nx := fun σ2 H2 => ∃ A2 ρ2, Ok X.K O H0 A2 H2 σ2 ρ2 ∧ Stp O A H A2 H2 ∧ whileGo (fun ρ => evT z ρ) F m ρ2 = some out, ct := fun σ2 H2 => ∃ A2 ρ2, Ok X.K O H0 A2 H2 σ2 ρ2 ∧ Stp O A H A2 H2 ∧ whileGo (fun ρ => evT z ρ) F m ρ2 = some out, bk := D.nx } out2 →
          tSs X.K n b { D with nx := fun σ2 H2 => ∃ A2 ρ2, Ok X.K O H0 A2 H2 σ2 ρ2 ∧ Stp O A H A2 H2 ∧ whileGo (fun ρ => evT z ρ) F m ρ2 = some out, ct := fun σ2 H2 => ∃ A2 ρ2, Ok X.K O H0 A2 H2 σ2 ρ2 ∧ Stp O A H A2 H2 ∧ whileGo (fun ρ => evT z ρ) F m ρ2 = some out, bk := D.nx } σ' H1 :=
        fun {out2} e p => ⟨O, H0, A', ρ', out2, ok1, by rw [← hF] at e; exact e, p⟩
      split at ef
      · rename_i ρ2 eb
        exact fin eb fun A2 σ3 H3 ok3 st3 => ⟨A2, ρ2, ok3, st1.trans st3, ef⟩
      · rename_i ρ2 eb
        exact fin eb fun A2 σ3 H3 ok3 st3 => ⟨A2, ρ2, ok3, st1.trans st3, ef⟩
      · rename_i ρ2 eb
        cases ef
        exact fin eb fun A2 σ3 H3 ok3 st3 => q A2 σ3 H3 ok3 (st1.trans st3)
      · rename_i r eb
        cases ef
        exact fin eb q
      · cases ef
end
section
variable {c : Cfg} {k n : Nat} {sc : Sc} {X : Cx}
theorem s_anyLc (gd : Good c k sc X) {y : Str} {py pos spos : Pos} {elt : Expr} {gs : List Comprehension} {scope : Scope} {i : Nat} {x : E} (hi : c.N[i]? = some y) (hy : sc.lookup y = some .local) (hc : CE c sc (.ListComp elt gs scope pos) x) (hs : yesSwap sc (.Name y py) (.ListComp elt gs scope pos) = true)
    {s : S} (fin : ∀ (D : Ends) (σ : L2.St) (H : Hp), tS X.K n s D σ H → tE X.K x false σ H fun v H1 => D.nx (σ.set i (some v)) H1) :
    PS X (.Assign [.Name y py] (.ListComp elt gs scope pos) spos) (tS X.K n s) := by
  have hsw := yesSwap_ok gd hs spos.line
  have hi' : X.N[i]? = some y := by rw [gd.hN]; exact hi
  have nd' : X.N.Nodup := by rw [gd.hN]; exact gd.nd
  cases hc with
  | comp h1 h2 h3 h4 hb hg hns =>
    exact PS.imp (ps_setLc (wi := tI X.K _ true) (g := tG X.K _) (tt := tC X.K _) (te := tE X.K _ false) gd.calm nd' hi' (gd.lc y hy) hsw (soundI h1 gd true) (blk_ok gd hb) (fun s H C cl fp => soundG (good_blk gd hb s H C cl fp) h2) (fun s H C cl fp => soundC h3 (good_blk gd hb s H C cl fp)) (fun s H C cl fp => (soundE h4 (good_blk gd hb s H C cl fp)).1 false)
      (noset_of hns X.env)) fun D σ H q => rd_comp hg false σ H _ (fin D σ H q)
  | comp2 h1 h2 h3 h4 h5 h6 h7 hb hg hg1 ho hns hns1 =>
    exact PS.imp (ps_setLc2 (wi := tI X.K _ true) (g := tG X.K _) (tt := tC X.K _) (wi1 := tI X.K _ true) (g1 := tG X.K _) (tt1 := tC X.K _) (te := tE X.K _ false) gd.calm nd' hi' (gd.lc y hy) hsw (soundI h1 gd true) (blk_ok gd hb) (mem_of_all ho)
      (fun s H C cl fp => soundG (good_blk gd hb s H C cl fp) h2) (fun s H C cl fp => soundC h3 (good_blk gd hb s H C cl fp)) (fun s H C cl fp => soundI h4 (good_blk gd hb s H C cl fp) true) (fun s H C cl fp => soundG (good_blk gd hb s H C cl fp) h5) (fun s H C cl fp => soundC h6 (good_blk gd hb s H C cl fp)) (fun s H C cl fp => (soundE h7 (good_blk gd hb s H C cl fp)).1 false)
      (noset_of hns X.env) (fun env => noset_of hns1 env)) fun D σ H q => rd_comp2 hg hg1 false σ H _ (fin D σ H q)
theorem fin_asg {K : PySem.W.Frag} {i : Nat} {x : E} (D : Ends) (σ : L2.St) (H : Hp) (h : tS K n (.asg (.nm i) x) D σ H) : tE K x false σ H fun v H1 => D.nx (σ.set i (some v)) H1 := by
  obtain ⟨O, H0, A, ρ, out, ok, ev, q⟩ := h
  simp only [evS, asgR] at ev
  obtain ⟨r, e1, ev2⟩ := bind_some ev
  cases ev2
  refine ⟨O, H0, A, ρ, r, ok, e1, fun v H1 s1 h1 => ?_⟩
  obtain ⟨A', ok', st⟩ := ok.store s1 h1.toR
  exact q A' _ H1 ok' st
theorem fin_asgs {K : PySem.W.Frag} {i : Nat} {x : E} (D : Ends) (σ : L2.St) (H : Hp) (h : tS K n (.asgs i x) D σ H) : tE K x false σ H fun v H1 => D.nx (σ.set i (some v)) H1 := by
  obtain ⟨O, H0, A, ρ, out, ok, ev, q⟩ := h
  simp only [evS] at ev
  obtain ⟨r, e1, ev2⟩ := map_some ev
  cases ev2
  exact ⟨O, H0, A, ρ, r, ok, e1, fun v H1 s1 h1 => q A _ H1 ((ok.same s1).set (ok.down s1 h1.toR)) (Stp.same s1)⟩
theorem s_asgs (gd : Good c k sc X) {y : Str} {py pos : Pos} {e : Expr} {i : Nat} {x : E} (hi : c.N[i]? = some y) (hl : loc sc y) (he : Both X e x) (h1 : noSwap sc (.Name y py) e = true) : PS X (.Assign [.Name y py] e pos) (tS X.K n (.asgs i x)) :=
  PS.imp (ps_asg (he.1 false) (pg_name (i := i) (by rw [gd.hN]; exact gd.nd) (by rw [gd.hN]; exact hi) (gd.loc hl).1 (gd.loc hl).2) (noSwap_ok gd (.nm hi hl) h1 _) (by cases e <;> rfl) rfl) fun D σ H q => fin_asgs D σ H q
mutual
theorem soundS (gd : Good c k sc X) : ∀ {st : Stmt} {s : S}, CS c sc st s → PS X st (tS X.K n s)
  | _, _, .asg hg he h1 h2 => s_asg gd hg (soundE he gd) h1 h2
  | _, _, .asgLc h1 h2 h3 h4 => s_anyLc gd h1 h2 h3 h4 fin_asg
  | _, _, .asgs h1 h2 h3 h4 => s_asgs gd h1 h2 (soundE h3 gd) h4
  | _, _, .asgsLc h1 h2 h3 h4 => s_anyLc gd h1 h2 h3 h4 fin_asgs
  | _, _, .par h1 h2 h3 h4 h5 h6 ha hb na nb hs => s_par gd h1 h2 h3 h4 h5 h6 (soundE ha gd) (soundE hb gd) na nb hs
  | _, _, .par3 h1 h2 h3 h4 h5 h6 h7 h8 h9 h10 h11 ha hb hd na nb nd hs => s_par3 gd h1 h2 h3 h4 h5 h6 h7 h8 h9 h10 h11 (soundE ha gd) (soundE hb gd) (soundE hd gd) na nb nd hs
  | _, _, .app h1 h2 h3 h4 he ne hl => s_app gd h1 h2 h3 h4 (soundE he gd) ne hl
  | _, _, .ext h1 h2 h3 h4 he ne hl => s_ext gd h1 h2 h3 h4 (soundE he gd) ne hl
  | _, _, .ins h1 h2 h3 h4 ha he na ne hl => s_ins gd h1 h2 h3 h4 (soundE ha gd) (soundE he gd) na ne hl
  | _, _, .put h1 h2 h3 h4 ha he na ne => s_put gd h1 h2 h3 h4 (soundE ha gd) (soundE he gd) na ne
  | _, _, .pop hg h1 h2 h3 h4 hl => s_pop gd hg h1 h2 h3 h4 hl
  | _, _, .ret he => s_ret gd he (soundE he gd)
  | _, _, .retN => s_retN
  | _, _, .ite ht ha hb => s_if (soundE ht gd) (soundSs gd ha) (soundSs gd hb)
  | _, _, .for_ hg hi hs hb => s_for gd hg (fun b => soundI hi gd b) hs (soundSs gd hb)
  | _, _, .while_ ht hb => s_while gd (soundE ht gd) (soundSs gd hb)
  | _, _, .never => PS.imp ps_never fun D σ H ⟨O, H0, A, ρ, out, ok, ev, q⟩ => by
      simp only [evS] at ev
      cases ev
theorem soundSs (gd : Good c k sc X) : ∀ {sts : List Stmt} {ss : Ss}, CSs c sc sts ss → PSs X sts (tSs X.K n ss)
  | _, _, .nil => ss_nil
  | _, _, .cons h t => ss_cons (soundS gd h) (soundSs gd t)
  | _, _, .share t => ss_share (soundSs gd t)
end
end
end PV

set_option Elab.async false
set_option linter.all false
set_option maxRecDepth 100000
set_option maxHeartbeats 4000000
/-! PV12: turning the text into E and S. -/
namespace PV
open PySem PySem.Spec PyProof.Rows L2

def idxOf (x : Str) : List Str → Option Nat
  | [] => none
  | y :: ys => if x == y then some 0 else (idxOf x ys).map (· + 1)
theorem idxOf_ok {x : Str} : ∀ {N : List Str} {i : Nat}, idxOf x N = some i → N[i]? = some x
  | [], i, h => by cases h
  | y :: ys, i, h => by
    unfold idxOf at h
    split at h
    · rename_i e
      cases h
      rw [beq_iff_eq.mp e]; rfl
    · obtain ⟨j, e3, e2⟩ := map_some h
      subst e2
      exact idxOf_ok (N := ys) e3
def visB (sc : Sc) (x : Str) : Bool := match sc.lookup x with
  | some .local => true
  | some .cell => true
  | some .free => true
  | _ => false
def locB (sc : Sc) (x : Str) : Bool := match sc.lookup x with
  | some .local => true
  | some .cell => true
  | _ => false
def localB (sc : Sc) (x : Str) : Bool := match sc.lookup x with
  | some .local => true
  | _ => false
def gliB (sc : Sc) (x : Str) : Bool := match sc.lookup x with
  | some .globalImplicit => true
  | _ => false
theorem visB_ok {sc : Sc} {x : Str} (h : visB sc x = true) : vis sc x := by
  unfold visB at h
  split at h
  · exact .inl (by assumption)
  · exact .inr (.inl (by assumption))
  · exact .inr (.inr (by assumption))
  · cases h
theorem locB_ok {sc : Sc} {x : Str} (h : locB sc x = true) : loc sc x := by
  unfold locB at h
  split at h
  · exact .inl (by assumption)
  · exact .inr (by assumption)
  · cases h
theorem localB_ok {sc : Sc} {x : Str} (h : localB sc x = true) : sc.lookup x = some .local := by
  unfold localB at h
  split at h
  · assumption
  · cases h
theorem gliB_ok {sc : Sc} {x : Str} (h : gliB sc x = true) : gli sc x := by
  unfold gliB at h
  split at h
  · assumption
  · cases h
def okName (x : Str) : Bool := !(x == ("__debug__" : Str)) && !(x == ("__classdict__" : Str))
theorem okName_ok {x : Str} (h : okName x = true) : (x == ("__debug__" : Str)) = false ∧ (x == ("__classdict__" : Str)) = false := by
  unfold okName at h
  rw [Bool.and_eq_true, Bool.not_eq_true', Bool.not_eq_true'] at h
  exact h
def opInv : Operator → Option BOp
  | .Add => some .add | .Sub => some .sub | .Mult => some .mul | .FloorDiv => some .fdiv | .Mod => some .mod | .Pow => some .pow | .LShift => some .shl | .RShift => some .shr | .BitAnd => some .band | .BitOr => some .bor
  | _ => none
theorem opInv_ok {op : Operator} {o : BOp} (h : opInv op = some o) : op = opOf o := by
  cases op <;> cases h <;> rfl
def copInv : CmpOp → Option COp
  | .Eq => some .eq | .NotEq => some .ne | .Lt => some .lt | .LtE => some .le | .Gt => some .gt | .GtE => some .ge | .Is => some .isn | .IsNot => some .notn | .In => some .inn | .NotIn => some .notin
theorem copInv_ok {op : CmpOp} {o : COp} (h : copInv op = some o) : op = copOf o := by
  cases op <;> cases h <;> rfl
def allBI : List BI := [.len, .abs, .int, .min, .max, .sum, .sorted, .list, .tuple, .repr]
def biOf (f : Str) : List BI → Option BI
  | [] => none
  | b :: bs => match biName b with
    | some g => if f == g then some b else biOf f bs
    | none => biOf f bs
theorem biOf_ok {f : Str} {b : BI} : ∀ {l : List BI}, biOf f l = some b → biName b = some f
  | [], h => by cases h
  | a :: l, h => by
    unfold biOf at h
    split at h
    · rename_i g e
      split at h
      · rename_i e2
        cases h
        rw [e, beq_iff_eq.mp e2]
      · exact biOf_ok h
    · exact biOf_ok h
def allIs : List BI := [.isInt, .isBool, .isList, .isTuple, .isStr]
def isOf (f : Str) : List BI → Option BI
  | [] => none
  | b :: bs => match isName b with
    | some g => if f == g then some b else isOf f bs
    | none => isOf f bs
theorem isOf_ok {f : Str} {b : BI} : ∀ {l : List BI}, isOf f l = some b → isName b = some f
  | [], h => by cases h
  | a :: l, h => by
    unfold isOf at h
    split at h
    · rename_i g e
      split at h
      · rename_i e2
        cases h
        rw [e, beq_iff_eq.mp e2]
      · exact isOf_ok h
    · exact isOf_ok h
/-- a condition, then the rest -/
def chk {α : Type} (b : Bool) (x : Option α) : Option α := match b with
  | true => x
  | false => none
theorem chk_some {α : Type} {b : Bool} {x : Option α} {r : α} (h : chk b x = some r) : b = true ∧ x = some r := by
  cases b with
  | true => exact ⟨rfl, h⟩
  | false => cases h
def compG (c : Cfg) (sc : Sc) : Nat → Expr → Option G
  | 0, _ => none
  | n + 1, e => match e with
    | .Name x _ => chk (locB sc x) ((idxOf x c.N).map .nm)
    | .Tuple [a, b] _ _ => (compG c sc n a).bind fun x => (compG c sc n b).map fun y => .two x y
    | .Tuple [a, b, d] _ _ => (compG c sc n a).bind fun x => (compG c sc n b).bind fun y => (compG c sc n d).map fun z => .thr x y z
    | .Tuple [a, b, d, e] _ _ => (compG c sc n a).bind fun x => (compG c sc n b).bind fun y => (compG c sc n d).bind fun z => (compG c sc n e).map fun u => .fou x y z u
    | _ => none
theorem compG_ok {c : Cfg} {sc : Sc} : ∀ {n : Nat} {e : Expr} {g : G}, compG c sc n e = some g → CG c sc e g
  | 0, e, g, h => by cases h
  | n + 1, e, g, h => by
    unfold compG at h
    split at h
    · obtain ⟨h1, h2⟩ := chk_some h
      obtain ⟨i, h3, h4⟩ := map_some h2
      subst h4
      exact .nm (idxOf_ok h3) (locB_ok h1)
    · obtain ⟨x, h1, h2⟩ := bind_some h
      obtain ⟨y, h3, h4⟩ := map_some h2
      subst h4
      exact .two (compG_ok h1) (compG_ok h3)
    · obtain ⟨x, h1, h2⟩ := bind_some h
      obtain ⟨y, h3, h4⟩ := bind_some h2
      obtain ⟨z, h5, h6⟩ := map_some h4
      subst h6
      exact .thr (compG_ok h1) (compG_ok h3) (compG_ok h5)
    · obtain ⟨x, h1, h2⟩ := bind_some h
      obtain ⟨y, h3, h4⟩ := bind_some h2
      obtain ⟨z, h5, h6⟩ := bind_some h4
      obtain ⟨u, h7, h8⟩ := map_some h6
      subst h8
      exact .fou (compG_ok h1) (compG_ok h3) (compG_ok h5) (compG_ok h7)
    · cases h
def ownOf (N : List Str) (names : List (Str × NameKind)) : List (Str × Nat) := names.filterMap fun (x, k) => match k with
  | .local => (idxOf x N).map fun i => (x, i)
  | .cell => (idxOf x N).map fun i => (x, i)
  | _ => none
def callOf (c : Cfg) (sc : Sc) (f : Str) (e : Expr) (es : List Expr) (xs : Option Es) (x1 : Option E) : Option E :=
  match c.tab f with
  | some F => xs.map fun xs => .call F xs
  | none => match biOf f allBI with
    | some b => xs.map fun xs => .bi b xs
    | none => chk (f == ("isinstance" : Str)) (match es with
      | [.Name T _] => chk (gliB sc T && noStar e) ((isOf T allIs).bind fun b => x1.map fun x => .bi b (.cons x .nil))
      | _ => none)
/-- sorted(set(e)) -/
def setArg (f : Str) (e : Expr) (es : List Expr) : Option Expr := match e, es with
  | .Call (.Name g _) [e2] [] _, [] => chk (f == ("sorted" : Str) && g == ("set" : Str)) (some e2)
  | _, _ => none
theorem setArg_ok {f : Str} {e e2 : Expr} {es : List Expr} (h : setArg f e es = some e2) : f = "sorted" ∧ es = [] ∧ ∃ p q, e = .Call (.Name "set" p) [e2] [] q := by
  unfold setArg at h
  split at h
  · obtain ⟨h1, h⟩ := chk_some h
    cases h
    rw [Bool.and_eq_true] at h1
    rw [beq_iff_eq.mp h1.1, beq_iff_eq.mp h1.2]
    exact ⟨rfl, rfl, _, _, rfl⟩
  · cases h
/-- list(range(..)) -/
def rngArg (f : Str) (e : Expr) (es : List Expr) : Option (List Expr) := match e, es with
  | .Call (.Name g _) as [] _, [] => chk (f == ("list" : Str) && g == ("range" : Str)) (some as)
  | _, _ => none
theorem rngArg_ok {f : Str} {e : Expr} {es as : List Expr} (h : rngArg f e es = some as) : f = "list" ∧ es = [] ∧ ∃ p q, e = .Call (.Name "range" p) as [] q := by
  unfold rngArg at h
  split at h
  · obtain ⟨h1, h⟩ := chk_some h
    cases h
    rw [Bool.and_eq_true] at h1
    rw [beq_iff_eq.mp h1.1, beq_iff_eq.mp h1.2]
    exact ⟨rfl, rfl, _, _, rfl⟩
  · cases h
mutual
def compE (c : Cfg) : Nat → Sc → Expr → Option E
  | 0, _, _ => none
  | n + 1, sc, e => match e with
    | .Name x _ => chk (okName x) (match visB sc x with
      | true => (idxOf x c.N).map .v
      | false => chk (gliB sc x) ((c.cst x).map .c))
    | .Constant (.int i) _ _ => some (.c (.int i))
    | .Constant (.bool b) _ _ => some (.c (.bool b))
    | .Constant .none _ _ => some (.c .none)
    | .Constant (.str x) _ _ => some (.c (.str x))
    | .BinOp a op b _ => (opInv op).bind fun o => (compE c n sc a).bind fun x => (compE c n sc b).map fun y => .bin o x y
    | .UnaryOp .USub a _ => (compE c n sc a).map fun x => .neg x
    | .UnaryOp .Not a _ => (compE c n sc a).map fun x => .not x
    | .Compare a [op] [b] _ => (copInv op).bind fun o => chk (!behindInMarks op b) ((compE c n sc a).bind fun x => (compE c n sc b).map fun y => .cmp o x y)
    | .Compare a [op, op2] [b, d] _ => (copInv op).bind fun o => (copInv op2).bind fun p => chk (!behindInMarks op2 d) ((compE c n sc a).bind fun x => (compE c n sc b).bind fun y => (compE c n sc d).map fun z => .chain o p x y z)
    | .BoolOp .And (a :: b :: es) _ => compA c n sc (a :: b :: es)
    | .BoolOp .Or (a :: b :: es) _ => compO c n sc (a :: b :: es)
    | .IfExp t a b _ => (compE c n sc t).bind fun z => (compE c n sc a).bind fun x => (compE c n sc b).map fun y => .ite z x y
    | .Tuple es _ _ => (compEs c n sc es).map fun xs => .tup xs
    | .List es _ => (compEs c n sc es).map fun xs => .lst xs
    | .Subscript a (.Slice none none (some (.UnaryOp .USub (.Constant (.int i) _ _) _)) _) _ => chk (decide (i = 1)) ((compE c n sc a).map fun x => .rev x)
    | .Subscript a (.Slice lo hi none _) _ => (compE c n sc a).bind fun x => (compP c n sc lo).bind fun l => (compP c n sc hi).map fun h => .sl x l h
    | .Subscript a b _ => chk (noSlice b) ((compE c n sc a).bind fun x => (compE c n sc b).map fun y => .ix x y)
    | .Call (.Name f _) [] [] _ => chk (gliB sc f && okName f) ((c.tab f).map fun F => .call F .nil)
    | .Call (.Name f _) (e :: es) [] _ => chk (gliB sc f && okName f) (match setArg f e es with
      | some e2 => chk (gliB sc "set" && noStar e2) ((compE c n sc e2).map fun x => .bi .sortedSet (.cons x .nil))
      | none => match rngArg f e es with
        | some [a] => chk (gliB sc "range" && noStar a) ((compE c n sc a).map fun x => .rngl (.cons x .nil))
        | some [a, b] => chk (gliB sc "range" && noStar a && noStar b) ((compE c n sc a).bind fun x => (compE c n sc b).map fun y => .rngl (.cons x (.cons y .nil)))
        | _ => callOf c sc f e es (compEs c n sc (e :: es)) (compE c n sc e))
    | .Call (.Attribute o f apos) [e] [] cpos => chk ((apos.endLine == cpos.line) && notCall o && noStar o && noStar e) ((compE c n sc o).bind fun x => (compE c n sc e).bind fun y => match f == ("index" : Str) with
      | true => some (.bi .index (.cons x (.cons y .nil)))
      | false => chk (f == ("count" : Str)) (some (.bi .count (.cons x (.cons y .nil)))))
    | .ListComp elt [⟨tg, iter, ifs, as⟩] scope _ => chk (decide (as = 0) && noSet iter) ((compI c n sc iter).bind fun it => (compG c scope.names n tg).bind fun g => (compC c n scope.names ifs).bind fun t => (compE c n scope.names elt).bind fun x =>
        chk (blkC c.N ⟨.function, sc, false, false, []⟩ scope (ownOf c.N scope.names) && (gslots g).all (fun i => ((ownOf c.N scope.names).map (·.2)).contains i)) (some (.comp ((ownOf c.N scope.names).map (·.2)) g it t x)))
    | .ListComp elt [⟨tg, iter, ifs, as⟩, ⟨tg1, iter1, ifs1, as1⟩] scope _ => chk (decide (as = 0) && decide (as1 = 0) && noSet iter && noSet iter1) ((compI c n sc iter).bind fun it => (compG c scope.names n tg).bind fun g => (compC c n scope.names ifs).bind fun t =>
        (compI c n scope.names iter1).bind fun it1 => (compG c scope.names n tg1).bind fun g1 => (compC c n scope.names ifs1).bind fun t1 => (compE c n scope.names elt).bind fun x =>
        chk (blkC c.N ⟨.function, sc, false, false, []⟩ scope (ownOf c.N scope.names) && (gslots g).all (fun i => ((ownOf c.N scope.names).map (·.2)).contains i) && (gslots g1).all (fun i => (gslots g1).contains i) && (gslots g1).all (fun i => ((ownOf c.N scope.names).map (·.2)).contains i))
          (some (.comp2 ((ownOf c.N scope.names).map (·.2)) g it t (gslots g1) g1 it1 t1 x)))
    | _ => none
def compA (c : Cfg) : Nat → Sc → List Expr → Option E
  | 0, _, _ => none
  | n + 1, sc, es => match es with
    | [a] => compE c n sc a
    | a :: b :: r => (compE c n sc a).bind fun x => (compA c n sc (b :: r)).map fun y => .and x y
    | [] => none
def compO (c : Cfg) : Nat → Sc → List Expr → Option E
  | 0, _, _ => none
  | n + 1, sc, es => match es with
    | [a] => compE c n sc a
    | a :: b :: r => (compE c n sc a).bind fun x => (compO c n sc (b :: r)).map fun y => .or x y
    | [] => none
def compEs (c : Cfg) : Nat → Sc → List Expr → Option Es
  | 0, _, _ => none
  | n + 1, sc, es => match es with
    | [] => some .nil
    | e :: r => chk (noStar e) ((compE c n sc e).bind fun x => (compEs c n sc r).map fun xs => .cons x xs)
def compP (c : Cfg) : Nat → Sc → Option Expr → Option Oe
  | 0, _, _ => none
  | n + 1, sc, e => match e with
    | none => some .no
    | some e => (compE c n sc e).map .yes
def compC (c : Cfg) : Nat → Sc → List Expr → Option Oe
  | 0, _, _ => none
  | n + 1, sc, e => match e with
    | [] => some .no
    | [e] => (compE c n sc e).map .yes
    | _ => none
def compI (c : Cfg) : Nat → Sc → Expr → Option I
  | 0, _, _ => none
  | n + 1, sc, e => match e with
    | .Call (.Name f _) (a :: es) [] _ => match f == ("range" : Str) && gliB sc f && Nat.ble es.length 2 with
      | true => (compEs c n sc (a :: es)).map .rng
      | false => (compE c n sc e).map .seq
    | _ => (compE c n sc e).map .seq
end
theorem not_true {b : Bool} (h : (!b) = true) : b = false := by simpa using h
theorem str_of_beq {f g : Str} (h : (f == g) = true) : f = g := beq_iff_eq.mp h
mutual
theorem compE_ok {c : Cfg} : ∀ {n : Nat} {sc : Sc} {e : Expr} {x : E}, compE c n sc e = some x → CE c sc e x
  | 0, _, _, _, h => by simp [compE] at h
  | n + 1, sc, e, x, h => by
    unfold compE at h
    split at h
    · obtain ⟨h1, h⟩ := chk_some h
      split at h
      · rename_i hv
        obtain ⟨i, h2, h3⟩ := map_some h
        subst h3
        exact .name (idxOf_ok h2) (visB_ok hv) (okName_ok h1).1 (okName_ok h1).2
      · obtain ⟨h2, h⟩ := chk_some h
        obtain ⟨d, h3, h4⟩ := map_some h
        subst h4
        exact .const (gliB_ok h2) h3 (okName_ok h1).1
    · cases h; exact .int
    · cases h; exact .bool
    · cases h; exact .none
    · cases h; exact .str
    · obtain ⟨o, h1, h⟩ := bind_some h
      obtain ⟨a, h2, h⟩ := bind_some h
      obtain ⟨b, h3, h⟩ := map_some h
      subst h
      rw [opInv_ok h1]
      exact .bin (compE_ok h2) (compE_ok h3)
    · obtain ⟨a, h2, h⟩ := map_some h
      subst h
      exact .neg (compE_ok h2)
    · obtain ⟨a, h2, h⟩ := map_some h
      subst h
      exact .not (compE_ok h2)
    · obtain ⟨o, h1, h⟩ := bind_some h
      obtain ⟨hm, h⟩ := chk_some h
      obtain ⟨a, h2, h⟩ := bind_some h
      obtain ⟨b, h3, h⟩ := map_some h
      subst h
      have hm := not_true hm
      have := copInv_ok h1
      subst this
      exact .cmp (compE_ok h2) (compE_ok h3) hm
    · obtain ⟨o, h1, h⟩ := bind_some h
      obtain ⟨p, h1', h⟩ := bind_some h
      obtain ⟨hm, h⟩ := chk_some h
      obtain ⟨a, h2, h⟩ := bind_some h
      obtain ⟨b, h3, h⟩ := bind_some h
      obtain ⟨d, h4, h⟩ := map_some h
      subst h
      have hm := not_true hm
      have := copInv_ok h1
      subst this
      have := copInv_ok h1'
      subst this
      exact .chain (compE_ok h2) (compE_ok h3) (compE_ok h4) hm
    · exact .and (compA_ok h)
    · exact .or (compO_ok h)
    · obtain ⟨a, h2, h⟩ := bind_some h
      obtain ⟨b, h3, h⟩ := bind_some h
      obtain ⟨d, h4, h⟩ := map_some h
      subst h
      exact .ite (compE_ok h2) (compE_ok h3) (compE_ok h4)
    · obtain ⟨a, h2, h⟩ := map_some h
      subst h
      exact .tup (compEs_ok h2)
    · obtain ⟨a, h2, h⟩ := map_some h
      subst h
      exact .lst (compEs_ok h2)
    · obtain ⟨hi, h⟩ := chk_some h
      have hi := of_decide_eq_true hi
      subst hi
      obtain ⟨a, h2, h⟩ := map_some h
      subst h
      exact .rev (compE_ok h2)
    · obtain ⟨a, h2, h⟩ := bind_some h
      obtain ⟨b, h3, h⟩ := bind_some h
      obtain ⟨d, h4, h⟩ := map_some h
      subst h
      exact .sl (compE_ok h2) (compP_ok h3) (compP_ok h4)
    · obtain ⟨hs, h⟩ := chk_some h
      obtain ⟨a, h2, h⟩ := bind_some h
      obtain ⟨b, h3, h⟩ := map_some h
      subst h
      exact .ix (compE_ok h2) (compE_ok h3) hs
    · obtain ⟨hg, h⟩ := chk_some h
      rw [Bool.and_eq_true] at hg
      obtain ⟨F, h2, h⟩ := map_some h
      subst h
      exact .call0 (gliB_ok hg.1) h2 (okName_ok hg.2).1
    · obtain ⟨hg, h⟩ := chk_some h
      rw [Bool.and_eq_true] at hg
      obtain ⟨hg, hn⟩ := hg
      have hg := gliB_ok hg
      split at h
      · rename_i e2 hs
        obtain ⟨hc, h⟩ := chk_some h
        rw [Bool.and_eq_true] at hc
        obtain ⟨x2, h2, h⟩ := map_some h
        subst h
        obtain ⟨e3, e4, p3, q3, e5⟩ := setArg_ok hs
        subst e3 e4 e5
        exact .sset hg (gliB_ok hc.1) (compE_ok h2) hc.2
      split at h
      · rename_i a hs
        obtain ⟨hc, h⟩ := chk_some h
        rw [Bool.and_eq_true] at hc
        obtain ⟨x2, h2, h⟩ := map_some h
        subst h
        obtain ⟨e3, e4, p3, q3, e5⟩ := rngArg_ok hs
        subst e3 e4 e5
        exact .rngl1 hg (gliB_ok hc.1) (compE_ok h2) hc.2
      · rename_i a b hs
        obtain ⟨hc, h⟩ := chk_some h
        rw [Bool.and_eq_true, Bool.and_eq_true] at hc
        obtain ⟨x2, h2, h⟩ := bind_some h
        obtain ⟨x3, h3, h⟩ := map_some h
        subst h
        obtain ⟨e3, e4, p3, q3, e5⟩ := rngArg_ok hs
        subst e3 e4 e5
        exact .rngl2 hg (gliB_ok hc.1.1) (compE_ok h2) hc.1.2 (compE_ok h3) hc.2
      unfold callOf at h
      split at h
      · rename_i F hF
        obtain ⟨xs, h2, h⟩ := map_some h
        subst h
        exact .call hg hF (okName_ok hn).1 (compEs_ok h2)
      · split at h
        · rename_i b hb
          obtain ⟨xs, h2, h⟩ := map_some h
          subst h
          exact .bi hg (biOf_ok hb) (compEs_ok h2)
        · obtain ⟨hi, k1⟩ := chk_some h
          have hf := str_of_beq hi
          split at k1
          · obtain ⟨hc, k2⟩ := chk_some k1
            rw [Bool.and_eq_true] at hc
            obtain ⟨b, h2, k3⟩ := bind_some k2
            obtain ⟨x, h3, k4⟩ := map_some k3
            subst k4
            subst hf
            exact .is hg (gliB_ok hc.1) (isOf_ok h2) (compE_ok h3) hc.2
          · cases k1
    · obtain ⟨hc, h⟩ := chk_some h
      simp only [Bool.and_eq_true] at hc
      obtain ⟨⟨⟨c2, c3⟩, c4⟩, c5⟩ := hc
      obtain ⟨a, h2, k1⟩ := bind_some h
      obtain ⟨b, h3, k2⟩ := bind_some k1
      split at k2
      · rename_i c1
        cases k2
        have hf := str_of_beq c1
        subst hf
        exact .index (compE_ok h2) (compE_ok h3) c2 c3 c4 c5
      · obtain ⟨c1, k2⟩ := chk_some k2
        cases k2
        have hf := str_of_beq c1
        subst hf
        exact .count (compE_ok h2) (compE_ok h3) c2 c3 c4 c5
    · obtain ⟨hc, h⟩ := chk_some h
      rw [Bool.and_eq_true] at hc
      have e0 := of_decide_eq_true hc.1
      obtain ⟨it, h1, k1⟩ := bind_some h
      obtain ⟨g, h2, k2⟩ := bind_some k1
      obtain ⟨t, h3, k3⟩ := bind_some k2
      obtain ⟨y, h4, k4⟩ := bind_some k3
      obtain ⟨hb, k5⟩ := chk_some k4
      rw [Bool.and_eq_true] at hb
      cases k5
      subst e0
      exact .comp (compI_ok h1) (compG_ok h2) (compC_ok h3) (compE_ok h4) hb.1 hb.2 hc.2
    · obtain ⟨hc, h⟩ := chk_some h
      simp only [Bool.and_eq_true] at hc
      obtain ⟨⟨⟨c1, c2⟩, c3⟩, c4⟩ := hc
      have e0 := of_decide_eq_true c1
      have e1 := of_decide_eq_true c2
      obtain ⟨it, h1, k1⟩ := bind_some h
      obtain ⟨g, h2, k2⟩ := bind_some k1
      obtain ⟨t, h3, k3⟩ := bind_some k2
      obtain ⟨it1, h4, k4⟩ := bind_some k3
      obtain ⟨g1, h5, k5⟩ := bind_some k4
      obtain ⟨t1, h6, k6⟩ := bind_some k5
      obtain ⟨y, h7, k7⟩ := bind_some k6
      obtain ⟨hb, k8⟩ := chk_some k7
      simp only [Bool.and_eq_true] at hb
      obtain ⟨⟨⟨b1, b2⟩, b3⟩, b4⟩ := hb
      cases k8
      subst e0 e1
      exact .comp2 (compI_ok h1) (compG_ok h2) (compC_ok h3) (compI_ok h4) (compG_ok h5) (compC_ok h6) (compE_ok h7) b1 b2 b3 b4 c3 c4
    · cases h
theorem compA_ok {c : Cfg} : ∀ {n : Nat} {sc : Sc} {es : List Expr} {pos : Pos} {x : E}, compA c n sc es = some x → CA c sc es pos x
  | 0, _, _, _, _, h => by simp [compA] at h
  | n + 1, sc, es, pos, x, h => by
    unfold compA at h
    split at h
    · exact .one (compE_ok h)
    · obtain ⟨a, h2, h⟩ := bind_some h
      obtain ⟨b, h3, h⟩ := map_some h
      subst h
      exact .cons (compE_ok h2) (compA_ok h3)
    · cases h
theorem compO_ok {c : Cfg} : ∀ {n : Nat} {sc : Sc} {es : List Expr} {pos : Pos} {x : E}, compO c n sc es = some x → CO c sc es pos x
  | 0, _, _, _, _, h => by simp [compO] at h
  | n + 1, sc, es, pos, x, h => by
    unfold compO at h
    split at h
    · exact .one (compE_ok h)
    · obtain ⟨a, h2, h⟩ := bind_some h
      obtain ⟨b, h3, h⟩ := map_some h
      subst h
      exact .cons (compE_ok h2) (compO_ok h3)
    · cases h
theorem compEs_ok {c : Cfg} : ∀ {n : Nat} {sc : Sc} {es : List Expr} {x : Es}, compEs c n sc es = some x → CEs c sc es x
  | 0, _, _, _, h => by simp [compEs] at h
  | n + 1, sc, es, x, h => by
    unfold compEs at h
    split at h
    · cases h; exact .nil
    · obtain ⟨hs, h⟩ := chk_some h
      obtain ⟨a, h2, h⟩ := bind_some h
      obtain ⟨b, h3, h⟩ := map_some h
      subst h
      exact .cons (compE_ok h2) hs (compEs_ok h3)
theorem compP_ok {c : Cfg} : ∀ {n : Nat} {sc : Sc} {e : Option Expr} {x : Oe}, compP c n sc e = some x → CP c sc e x
  | 0, _, _, _, h => by simp [compP] at h
  | n + 1, sc, e, x, h => by
    unfold compP at h
    split at h
    · cases h; exact .no
    · obtain ⟨a, h2, h⟩ := map_some h
      subst h
      exact .yes (compE_ok h2)
theorem compC_ok {c : Cfg} : ∀ {n : Nat} {sc : Sc} {e : List Expr} {x : Oe}, compC c n sc e = some x → CC c sc e x
  | 0, _, _, _, h => by simp [compC] at h
  | n + 1, sc, e, x, h => by
    unfold compC at h
    split at h
    · cases h; exact .no
    · obtain ⟨a, h2, h⟩ := map_some h
      subst h
      exact .yes (compE_ok h2)
    · cases h
theorem compI_ok {c : Cfg} : ∀ {n : Nat} {sc : Sc} {e : Expr} {x : I}, compI c n sc e = some x → CI c sc e x
  | 0, _, _, _, h => by simp [compI] at h
  | n + 1, sc, e, x, h => by
    unfold compI at h
    split at h
    · split at h
      · rename_i hc
        simp only [Bool.and_eq_true] at hc
        obtain ⟨⟨c1, c2⟩, c3⟩ := hc
        have hf := str_of_beq c1
        obtain ⟨a, h2, k1⟩ := map_some h
        subst k1
        subst hf
        exact .rng (gliB_ok c2) (compEs_ok h2) (Nat.le_of_ble_eq_true c3)
      · obtain ⟨a, h2, h⟩ := map_some h
        subst h
        exact .seq (compE_ok h2)
    · obtain ⟨a, h2, h⟩ := map_some h
      subst h
      exact .seq (compE_ok h2)
end
end PV

set_option Elab.async false
set_option linter.all false
set_option maxRecDepth 100000
set_option maxHeartbeats 4000000
/-! PV13: whole defs; tables of defs; the law's end. -/
namespace PV
open PySem PySem.Spec PyProof.Rows L2

/-! ### names whose lists change -/
def recv : Expr → List Str
  | .Call (.Attribute (.Name x _) f _) _ _ _ => if f == ("append" : Str) || f == ("extend" : Str) || f == ("insert" : Str) || f == ("pop" : Str) then [x] else []
  | _ => []
mutual
def mutS : Nat → Stmt → List Str
  | 0, _ => []
  | n + 1, st => match st with
    | .Expr e _ => recv e
    | .Assign [.Subscript (.Name x _) _ _] e _ => x :: recv e
    | .Assign _ e _ => recv e
    | .If _ a b _ => mutSs n a ++ mutSs n b
    | .For _ _ a _ _ => mutSs n a
    | .While _ a _ _ => mutSs n a
    | _ => []
def mutSs : Nat → List Stmt → List Str
  | 0, _ => []
  | n + 1, l => match l with
    | [] => []
    | st :: r => mutS n st ++ mutSs n r
end
def mutSlots (N : List Str) (l : List Str) : List Nat := l.filterMap fun x => idxOf x N
/-! ### slots whose values go elsewhere -/
mutual
def shE : E → List Nat
  | .v i => [i]
  | .c _ => [] | .bin _ _ _ => [] | .neg _ => [] | .cmp _ _ _ => [] | .chain _ _ _ _ _ => [] | .not _ => [] | .ix _ _ => [] | .sl _ _ _ => [] | .rev _ => [] | .rngl _ => [] | .call _ _ => [] | .bi _ _ => []
  | .and _ y => shE y
  | .or _ y => shE y
  | .ite _ x y => shE x ++ shE y
  | .tup es => shEs es
  | .lst es => shEs es
  | .comp own _ _ _ x => (shE x).filter fun i => !own.contains i
  | .comp2 own _ _ _ _ _ _ _ x => (shE x).filter fun i => !own.contains i
def shEs : Es → List Nat
  | .nil => []
  | .cons e es => shE e ++ shEs es
end
def fresh : E → Bool
  | .lst _ => true | .sl _ _ _ => true | .rev _ => true | .rngl _ => true | .call _ _ => true | .comp _ _ _ _ _ => true | .comp2 _ _ _ _ _ _ _ _ _ => true
  | .bi .list _ => true | .bi .sorted _ => true
  | _ => false
def shI : I → List Nat
  | .seq e => shE e
  | .rng _ => []
/-- ahead of a statement -/
def before : S → List Nat
  | .asg _ e => shE e
  | .asgs _ e => shE e
  | .par _ _ a b => shE a ++ shE b
  | .par3 _ _ _ a b d => shE a ++ shE b ++ shE d
  | .app _ e => shE e
  | .ext _ e => shE e
  | .ins _ _ e => shE e
  | .put _ _ e => shE e
  | .ret (.v _) => []
  | .ret e => shE e
  | .for_ _ it _ => shI it
  | _ => []
def after (M : List Nat) : S → List Nat
  | .par i j a b => (if fresh a && !M.contains i then [i] else []) ++ (if fresh b && !M.contains j then [j] else [])
  | .par3 i j l a b d => (if fresh a && !M.contains i then [i] else []) ++ (if fresh b && !M.contains j then [j] else []) ++ (if fresh d && !M.contains l then [l] else [])
  | _ => []
def shares (l : List Nat) (ss : Ss) : Ss := l.foldr (fun i ss => .cons (.share i) ss) ss
theorem shares_ok {c : Cfg} {sc : Sc} {sts : List Stmt} {ss : Ss} (h : CSs c sc sts ss) : ∀ l : List Nat, CSs c sc sts (shares l ss)
  | [] => h
  | _ :: l => .share (shares_ok h l)
def nameSlot (c : Cfg) (sc : Sc) (x : Str) : Option Nat := chk (visB sc x && okName x) (idxOf x c.N)
theorem nameSlot_ok {c : Cfg} {sc : Sc} {x : Str} {i : Nat} (h : nameSlot c sc x = some i) : c.N[i]? = some x ∧ vis sc x ∧ (x == ("__debug__" : Str)) = false ∧ (x == ("__classdict__" : Str)) = false := by
  obtain ⟨h1, h2⟩ := chk_some h
  rw [Bool.and_eq_true] at h1
  exact ⟨idxOf_ok h2, visB_ok h1.1, (okName_ok h1.2).1, (okName_ok h1.2).2⟩
/-- pairs that are stored at once -/
def compPar (c : Cfg) (sc : Sc) (n : Nat) (x y : Str) (px py : Pos) (a b : Expr) : Option S :=
  chk (localB sc x && localB sc y && !(x == y) && (px.line == py.line) && noStar a && noStar b && swapPair a b) ((idxOf x c.N).bind fun i => (idxOf y c.N).bind fun j => (compE c n sc a).bind fun xa => (compE c n sc b).map fun xb => .par i j xa xb)
def compPar3 (c : Cfg) (sc : Sc) (n : Nat) (x y z : Str) (px py pz : Pos) (a b d : Expr) : Option S :=
  chk (localB sc x && localB sc y && localB sc z && !(x == y) && !(x == z) && !(y == z) && (px.line == py.line) && (px.line == pz.line) && noStar a && noStar b && noStar d && swapTri a b d)
    ((idxOf x c.N).bind fun i => (idxOf y c.N).bind fun j => (idxOf z c.N).bind fun l => (compE c n sc a).bind fun xa => (compE c n sc b).bind fun xb => (compE c n sc d).map fun xd => .par3 i j l xa xb xd)
def orElse {α : Type} (a b : Option α) : Option α := match a with
  | some x => some x
  | none => b
theorem orElse_some {α : Type} {a b : Option α} {r : α} (h : orElse a b = some r) : a = some r ∨ b = some r := by
  cases a with
  | none => exact .inr h
  | some x => exact .inl h
/-- name = e -/
def compSet (c : Cfg) (sc : Sc) (M : List Nat) (n : Nat) (x : Str) (p : Pos) (e : Expr) : Option S :=
  (idxOf x c.N).bind fun i => (compE c n sc e).bind fun y => match M.contains i, yesSwap sc (.Name x p) e with
    | true, true => chk (localB sc x) (some (.asg (.nm i) y))
    | false, true => chk (localB sc x) (some (.asgs i y))
    | true, false => chk (locB sc x && noSwap sc (.Name x p) e) (some (.asg (.nm i) y))
    | false, false => chk (locB sc x && noSwap sc (.Name x p) e) (some (.asgs i y))
def compTup (c : Cfg) (sc : Sc) (n : Nat) (tg e : Expr) : Option S := chk (noSwap sc tg e && plainSt sc tg e) ((compG c sc n tg).bind fun g => (compE c n sc e).map fun y => .asg g y)
def compAsg (c : Cfg) (sc : Sc) (M : List Nat) (n : Nat) (tg e : Expr) : Option S := match tg, e with
  | .Subscript (.Name x _) a _, e => chk (noSlice a && noComp e) ((nameSlot c sc x).bind fun i => (compE c n sc a).bind fun z => (compE c n sc e).map fun y => .put i z y)
  | tg, .Call (.Attribute (.Name x _) f apos) [] [] cpos => chk (f == ("pop" : Str) && (apos.endLine == cpos.line)) ((nameSlot c sc x).bind fun i => (compG c sc n tg).map fun g => .pop g i)
  | .Tuple [.Name x px, .Name y py] kt pt, .Tuple [a, b] k2 pt2 => orElse (compPar c sc n x y px py a b) (compTup c sc n (.Tuple [.Name x px, .Name y py] kt pt) (.Tuple [a, b] k2 pt2))
  | .Tuple [.Name x px, .Name y py, .Name z pz] kt pt, .Tuple [a, b, d] k2 pt2 => orElse (compPar3 c sc n x y z px py pz a b d) (compTup c sc n (.Tuple [.Name x px, .Name y py, .Name z pz] kt pt) (.Tuple [a, b, d] k2 pt2))
  | .Name x p, e => compSet c sc M n x p e
  | tg, e => compTup c sc n tg e
theorem compPar_ok {c : Cfg} {sc : Sc} {n : Nat} {x y : Str} {px py pt pt2 pos : Pos} {kt k2 : Nat} {a b : Expr} {s : S} (h : compPar c sc n x y px py a b = some s) : CS c sc (.Assign [.Tuple [.Name x px, .Name y py] kt pt] (.Tuple [a, b] k2 pt2) pos) s := by
  obtain ⟨h1, h⟩ := chk_some h
  simp only [Bool.and_eq_true] at h1
  obtain ⟨⟨⟨⟨⟨⟨c1, c2⟩, c3⟩, c4⟩, c5⟩, c6⟩, c7⟩ := h1
  obtain ⟨i, h2, h⟩ := bind_some h
  obtain ⟨j, h3, h⟩ := bind_some h
  obtain ⟨xa, h4, h⟩ := bind_some h
  obtain ⟨xb, h5, h⟩ := map_some h
  subst h
  exact .par (idxOf_ok h2) (idxOf_ok h3) (localB_ok c1) (localB_ok c2) (not_true c3) c4 (compE_ok h4) (compE_ok h5) c5 c6 c7
theorem compPar3_ok {c : Cfg} {sc : Sc} {n : Nat} {x y z : Str} {px py pz pt pt2 pos : Pos} {kt k2 : Nat} {a b d : Expr} {s : S} (h : compPar3 c sc n x y z px py pz a b d = some s) : CS c sc (.Assign [.Tuple [.Name x px, .Name y py, .Name z pz] kt pt] (.Tuple [a, b, d] k2 pt2) pos) s := by
  obtain ⟨h1, h⟩ := chk_some h
  simp only [Bool.and_eq_true] at h1
  obtain ⟨⟨⟨⟨⟨⟨⟨⟨⟨⟨⟨c1, c2⟩, c3⟩, c4⟩, c5⟩, c6⟩, c7⟩, c8⟩, c9⟩, c10⟩, c11⟩, c12⟩ := h1
  obtain ⟨i, h2, h⟩ := bind_some h
  obtain ⟨j, h3, h⟩ := bind_some h
  obtain ⟨l, h3', h⟩ := bind_some h
  obtain ⟨xa, h4, h⟩ := bind_some h
  obtain ⟨xb, h5, h⟩ := bind_some h
  obtain ⟨xd, h6, h⟩ := map_some h
  subst h
  exact .par3 (idxOf_ok h2) (idxOf_ok h3) (idxOf_ok h3') (localB_ok c1) (localB_ok c2) (localB_ok c3) (not_true c4) (not_true c5) (not_true c6) c7 c8 (compE_ok h4) (compE_ok h5) (compE_ok h6) c9 c10 c11 c12
theorem compTup_ok {c : Cfg} {sc : Sc} {n : Nat} {tg e : Expr} {pos : Pos} {s : S} (h : compTup c sc n tg e = some s) : CS c sc (.Assign [tg] e pos) s := by
  obtain ⟨h1, h⟩ := chk_some h
  rw [Bool.and_eq_true] at h1
  obtain ⟨g, h2, h⟩ := bind_some h
  obtain ⟨y, h3, h⟩ := map_some h
  subst h
  exact .asg (compG_ok h2) (compE_ok h3) h1.1 h1.2
theorem yes_lc {sc : Sc} {x : Str} {p : Pos} {e : Expr} (h : yesSwap sc (.Name x p) e = true) : ∃ elt gs scope pos, e = .ListComp elt gs scope pos := by
  cases e <;> first | exact absurd h Bool.false_ne_true | exact ⟨_, _, _, _, rfl⟩
theorem plain_name {sc : Sc} {x : Str} {p : Pos} {e : Expr} : plainSt sc (.Name x p) e = true := by
  cases e <;> rfl
theorem compSet_ok {c : Cfg} {sc : Sc} {M : List Nat} {n : Nat} {x : Str} {p pos : Pos} {e : Expr} {s : S} (h : compSet c sc M n x p e = some s) : CS c sc (.Assign [.Name x p] e pos) s := by
  obtain ⟨i, h2, h⟩ := bind_some h
  obtain ⟨y, h3, h⟩ := bind_some h
  split at h
  · rename_i hy
    obtain ⟨h1, h⟩ := chk_some h
    cases h
    obtain ⟨elt, gs, scope, pos, rfl⟩ := yes_lc hy
    exact .asgLc (idxOf_ok h2) (localB_ok h1) (compE_ok h3) hy
  · rename_i hy
    obtain ⟨h1, h⟩ := chk_some h
    cases h
    obtain ⟨elt, gs, scope, pos, rfl⟩ := yes_lc hy
    exact .asgsLc (idxOf_ok h2) (localB_ok h1) (compE_ok h3) hy
  · obtain ⟨h1, h⟩ := chk_some h
    rw [Bool.and_eq_true] at h1
    cases h
    exact .asg (.nm (idxOf_ok h2) (locB_ok h1.1)) (compE_ok h3) h1.2 plain_name
  · obtain ⟨h1, h⟩ := chk_some h
    rw [Bool.and_eq_true] at h1
    cases h
    exact .asgs (idxOf_ok h2) (locB_ok h1.1) (compE_ok h3) h1.2
theorem compAsg_ok {c : Cfg} {sc : Sc} {M : List Nat} {n : Nat} {tg e : Expr} {pos : Pos} {s : S} (h : compAsg c sc M n tg e = some s) : CS c sc (.Assign [tg] e pos) s := by
  unfold compAsg at h
  split at h
  · obtain ⟨h1, h⟩ := chk_some h
    rw [Bool.and_eq_true] at h1
    obtain ⟨i, h2, h⟩ := bind_some h
    obtain ⟨z, h3, h⟩ := bind_some h
    obtain ⟨y, h4, h⟩ := map_some h
    subst h
    obtain ⟨n1, n2, n3, n4⟩ := nameSlot_ok h2
    exact .put n1 n2 n3 n4 (compE_ok h3) (compE_ok h4) h1.1 h1.2
  · obtain ⟨h1, k0⟩ := chk_some h
    rw [Bool.and_eq_true] at h1
    have hf := str_of_beq h1.1
    obtain ⟨i, h2, k1⟩ := bind_some k0
    obtain ⟨g, h3, k2⟩ := map_some k1
    subst k2
    subst hf
    obtain ⟨n1, n2, n3, n4⟩ := nameSlot_ok h2
    exact .pop (compG_ok h3) n1 n2 n3 n4 h1.2
  · rcases orElse_some h with h | h
    · exact compPar_ok h
    · exact compTup_ok h
  · rcases orElse_some h with h | h
    · exact compPar3_ok h
    · exact compTup_ok h
  · exact compSet_ok h
  · exact compTup_ok h
mutual
def compS (c : Cfg) (sc : Sc) (M : List Nat) : Nat → Stmt → Option S
  | 0, _ => none
  | n + 1, st => match st with
    | .Assign [tg] e _ => compAsg c sc M n tg e
    | .Expr (.Call (.Attribute (.Name x _) f apos) [e] [] cpos) _ => chk (noStar e && (apos.endLine == cpos.line)) ((nameSlot c sc x).bind fun i => (compE c n sc e).bind fun y => match f == ("append" : Str) with
        | true => some (.app i y)
        | false => chk (f == ("extend" : Str)) (some (.ext i y)))
    | .Expr (.Call (.Attribute (.Name x _) f apos) [a, e] [] cpos) _ => chk (noStar a && noStar e && (apos.endLine == cpos.line) && (f == ("insert" : Str))) ((nameSlot c sc x).bind fun i => (compE c n sc a).bind fun z => (compE c n sc e).map fun y => .ins i z y)
    | .Return (some e) _ => (compE c n sc e).map .ret
    | .Return none _ => some .retN
    | .If t a b _ => (compE c n sc t).bind fun z => (compSs c sc M n a).bind fun xa => (compSs c sc M n b).map fun xb => .ite z xa xb
    | .For tg iter body [] _ => chk (noSet iter) ((compG c sc n tg).bind fun g => (compI c n sc iter).bind fun it => (compSs c sc M n body).map fun b => .for_ g it b)
    | .While t body [] _ => (compE c n sc t).bind fun z => (compSs c sc M n body).map fun b => .while_ z b
    | .Raise _ _ _ => some .never
    | _ => none
def compSs (c : Cfg) (sc : Sc) (M : List Nat) : Nat → List Stmt → Option Ss
  | 0, _ => none
  | n + 1, l => match l with
    | [] => some .nil
    | st :: r => (compS c sc M n st).bind fun s => (compSs c sc M n r).map fun ss => shares ((before s).filter fun i => M.contains i) (.cons s (shares (after M s) ss))
end
mutual
theorem compS_ok {c : Cfg} {sc : Sc} {M : List Nat} : ∀ {n : Nat} {st : Stmt} {s : S}, compS c sc M n st = some s → CS c sc st s
  | 0, _, _, h => by simp [compS] at h
  | n + 1, st, s, h => by
    unfold compS at h
    split at h
    · exact compAsg_ok h
    · obtain ⟨h1, h⟩ := chk_some h
      rw [Bool.and_eq_true] at h1
      obtain ⟨i, h2, h⟩ := bind_some h
      obtain ⟨y, h3, h⟩ := bind_some h
      obtain ⟨n1, n2, n3, n4⟩ := nameSlot_ok h2
      split at h
      · rename_i hf
        cases h
        have hf := str_of_beq hf
        subst hf
        exact .app n1 n2 n3 n4 (compE_ok h3) h1.1 h1.2
      · obtain ⟨hf, h⟩ := chk_some h
        cases h
        have hf := str_of_beq hf
        subst hf
        exact .ext n1 n2 n3 n4 (compE_ok h3) h1.1 h1.2
    · obtain ⟨h1, h⟩ := chk_some h
      simp only [Bool.and_eq_true] at h1
      obtain ⟨i, h2, h⟩ := bind_some h
      obtain ⟨z, h3, h⟩ := bind_some h
      obtain ⟨y, h4, h⟩ := map_some h
      obtain ⟨n1, n2, n3, n4⟩ := nameSlot_ok h2
      subst h
      have hf := str_of_beq h1.2
      subst hf
      exact .ins n1 n2 n3 n4 (compE_ok h3) (compE_ok h4) h1.1.1.1 h1.1.1.2 h1.1.2
    · obtain ⟨y, h3, h⟩ := map_some h
      subst h
      exact .ret (compE_ok h3)
    · cases h; exact .retN
    · obtain ⟨z, h2, h⟩ := bind_some h
      obtain ⟨xa, h3, h⟩ := bind_some h
      obtain ⟨xb, h4, h⟩ := map_some h
      subst h
      exact .ite (compE_ok h2) (compSs_ok h3) (compSs_ok h4)
    · obtain ⟨h1, h⟩ := chk_some h
      obtain ⟨g, h2, h⟩ := bind_some h
      obtain ⟨it, h3, h⟩ := bind_some h
      obtain ⟨b, h4, h⟩ := map_some h
      subst h
      exact .for_ (compG_ok h2) (compI_ok h3) h1 (compSs_ok h4)
    · obtain ⟨z, h2, h⟩ := bind_some h
      obtain ⟨b, h4, h⟩ := map_some h
      subst h
      exact .while_ (compE_ok h2) (compSs_ok h4)
    · cases h; exact .never
    · cases h
theorem compSs_ok {c : Cfg} {sc : Sc} {M : List Nat} : ∀ {n : Nat} {st : List Stmt} {s : Ss}, compSs c sc M n st = some s → CSs c sc st s
  | 0, _, _, h => by simp [compSs] at h
  | n + 1, st, s, h => by
    unfold compSs at h
    split at h
    · cases h; exact .nil
    · obtain ⟨a, h2, h⟩ := bind_some h
      obtain ⟨b, h3, h⟩ := map_some h
      subst h
      exact shares_ok (.cons (compS_ok h2) (shares_ok (compSs_ok h3) _)) _
end
/-- a def's body -/
def compDef (c : Cfg) (st : Stmt) : Option Ss := compSs c (defScope st).names (mutSlots c.N (mutSs 100 (defBody st))) 100 (defBody st)

/-! ### a def keeps its promise -/
section
variable {P : Program} {w : World} {K : PySem.W.Frag} {mg : Str → Option Value} {base : Heap}
/-- the defs that are known -/
def TabOk (P : Program) (w : World) (K : PySem.W.Frag) (mg : Str → Option Value) (base : Heap) (k : Nat) (l : List (Str × Fn)) : Prop :=
  ∀ x f, l.lookup x = some f → ∃ a fd ps, mg x = some (.ref a) ∧ PySem.W.keepIn K (.ref a) = true ∧ Binds K fd ps [] ∧ FnG P w K mg base k a fd ps (spF K f)
def CstOk (K : PySem.W.Frag) (mg : Str → Option Value) (l : List (Str × PyData)) : Prop := ∀ x d, l.lookup x = some d → ∃ u v, mg x = some u ∧ RelV v u ∧ ∀ H O, Rp K H O v d
theorem start_get {N : List Str} {vs : List V} {i : Nat} {v : V} (h : vs[i]? = some v) : (L2.start N vs)[i]? = some (some v) := by
  obtain ⟨hi, e⟩ := List.getElem?_eq_some_iff.mp h
  unfold L2.start
  rw [List.getElem?_append_left (by simpa using hi), List.getElem?_map, h]
  rfl
theorem startR_get {n i : Nat} {ds : List PyData} {r : R} (h : (startR n ds)[i]? = some (some r)) : ∃ d, ds[i]? = some d ∧ r = (false, d) := by
  unfold startR at h
  by_cases hi : i < ds.length
  · rw [List.getElem?_append_left (by simpa using hi), List.getElem?_map] at h
    cases e : ds[i]? with
    | none => rw [e] at h; cases h
    | some d => rw [e] at h; cases h; exact ⟨d, rfl, rfl⟩
  · rw [List.getElem?_append_right (by simpa using hi), List.getElem?_replicate] at h
    split at h <;> cases h
theorem fn_ok {name : Str} {st : Stmt} {f : Addr} {fd : FuncData} {N ps : List Str} {k n : Nat} {tab : List (Str × Fn)} {cst : List (Str × PyData)} {body : Ss} (F : Fun K name name st f fd) (S : FnScope N ps (defScope st)) (T : TabOk P w K mg base k tab) (C : CstOk K mg cst) (blt : ∀ x ∈ builtinsUsed, mg x = none)
    (hc : compDef ⟨N, fun x => tab.lookup x, fun x => cst.lookup x⟩ st = some body) : FnG P w K mg base (k + 1) f fd ps (spF K (evDef n ps.length N.length body)) := by
  have hpl : ps.length ≤ N.length := by have := congrArg List.length S.pre; rw [List.length_take] at this; omega
  refine fnG_of F S (fun vs H Q E h => ?_) (fun cdv A outer s H vs Q E hst hr h => ?_)
  · obtain ⟨P', ds, r, hP, hv, hf, q⟩ := h
    unfold evDef at hf
    split at hf
    · rename_i hl; rw [hv.length]; exact hl
    · cases hf
  · obtain ⟨P', ds, r, hP, hv, hf, q⟩ := h
    unfold evDef at hf
    split at hf
    case isFalse => cases hf
    rename_i hl
    have gd : Good ⟨N, fun x => tab.lookup x, fun x => cst.lookup x⟩ k (defScope st).names (cxOf CX0 P w K mg base N name (defScope st) f cdv A outer s H E).nox :=
      ⟨rfl, S.nd, rfl, S.kind, fun _ h => h, fun _ h => ⟨h, rfl⟩, fun _ h => .inr h, fun _ h => h, hst, hr, PassesOwn.never, T, blt, C⟩
    refine ⟨_, soundSs (n := n) gd (compSs_ok hc), ?_⟩
    have ok : Ok K P' H (fun _ => none) H (L2.start N vs) (startR N.length ds) := by
      refine ⟨?_, Same.refl H, (fun i j a e => nomatch e), (fun i a e => nomatch e), (fun i a e => nomatch e), hP, fun i r e => ?_⟩
      · unfold L2.start startR
        rw [List.length_append, List.length_append, List.length_map, List.length_map, List.length_replicate, List.length_replicate, hv.length]
      · obtain ⟨d, e1, e2⟩ := startR_get e
        subst e2
        obtain ⟨v, e3, h⟩ := hv.get e1
        exact ⟨v, start_get e3, Rp.less h fun a z => z.elim _root_.id fun ⟨_, z⟩ => nomatch z⟩
    cases ev : evSs n body (startR N.length ds) with
    | none => rw [ev] at hf; cases hf
    | some out =>
      rw [ev] at hf
      refine ⟨P', H, _, _, out, ok, ev, ?_⟩
      cases out with
      | nx ρ' =>
        cases hf
        exact fun A' σ' H' ok' _ => q .non H' ok'.grow .non
      | rt r' =>
        cases hf
        exact fun v H' s h => q v H' s h
      | bk ρ' => cases hf
      | ct ρ' => cases hf
theorem TabOk.nil : TabOk P w K mg base 0 [] := fun _ _ h => nomatch h
theorem TabOk.cons {k : Nat} {tab : List (Str × Fn)} {x : Str} {fn : Fn} {a : Addr} {fd : FuncData} {ps : List Str} (T : TabOk P w K mg base k tab) (hm : mg x = some (.ref a)) (hk : PySem.W.keepIn K (.ref a) = true) (B : Binds K fd ps []) (F : FnG P w K mg base (k + 1) a fd ps (spF K fn)) : TabOk P w K mg base (k + 1) ((x, fn) :: tab) := by
  intro y g h
  rw [List.lookup_cons] at h
  split at h
  · rename_i e
    cases h
    rw [beq_iff_eq.mp e]
    exact ⟨a, fd, ps, hm, hk, B, F⟩
  · obtain ⟨a', fd', ps', h1, h2, h3, h4⟩ := T y g h
    exact ⟨a', fd', ps', h1, h2, h3, h4.mono (Nat.le_succ k)⟩
/-- one more def, by its text -/
theorem TabOk.more {k n : Nat} {tab : List (Str × Fn)} {cst : List (Str × PyData)} {name : Str} {st : Stmt} {f : Addr} {fd : FuncData} {N ps : List Str} {body : Ss} {fn : Fn} (T : TabOk P w K mg base k tab) (C : CstOk K mg cst) (blt : ∀ x ∈ builtinsUsed, mg x = none) (hm : mg name = some (.ref f)) (F : Fun K name name st f fd) (B : Binds K fd ps []) (S : FnScope N ps (defScope st))
    (hc : compDef ⟨N, fun x => tab.lookup x, fun x => cst.lookup x⟩ st = some body) (hf : fn = evDef n ps.length N.length body) : TabOk P w K mg base (k + 1) ((name, fn) :: tab) := by
  subst hf
  exact T.cons hm F.kp B (fn_ok F S T C blt hc)
end
end PV

set_option Elab.async false
set_option linter.all false
set_option maxRecDepth 100000
set_option maxHeartbeats 4000000
/-! PVL: the law's end; plain rules for loops. -/
namespace PV
open PySem PySem.Spec PyProof.Rows L2
def FUEL : Nat := 1000000000000000
/-- no list stands in the written part -/
def isLst (o : Obj) : Bool := match o.cls with
  | .type s => s == "list"
  | _ => false
def noLst (K : PySem.W.Frag) : Bool := K.all fun p => !isLst p.2
theorem lookup_mem {a : Addr} {o : Obj} : ∀ {K : PySem.W.Frag}, K.lookup a = some o → (a, o) ∈ K
  | [], h => by cases h
  | (b, u) :: r, h => by
    rw [List.lookup_cons] at h
    split at h
    · rename_i e
      cases h
      rw [beq_iff_eq.mp e]
      exact List.mem_cons_self
    · exact List.mem_cons_of_mem _ (lookup_mem h)
theorem rd_of_sq {K : PySem.W.Frag} {H : Hp} {a : Addr} {xs : List V} (hK : noLst K = true) (h : SqL K H a xs) : Rd H a (.lst xs) := by
  rcases h with h | ⟨o, its, n, e, hc, _⟩
  · exact h
  · have hm : (a, o) ∈ K := lookup_mem e
    have := List.all_eq_true.mp hK _ hm
    unfold isLst at this
    rw [hc] at this
    cases this
theorem spF_law {K : PySem.W.Frag} {H : Hp} {a : Addr} {ns : List Int} {f : Fn} {E0 : XK} (hK : noLst K = true) (hS : SqL K H a (ns.map V.int)) (h : f [.list (ns.map .int)] = some (false, .bool true)) : spF K f [.ref a] H (fun v _ => v = .bl true) E0 :=
  ⟨fun _ => False, [.list (ns.map .int)], _, fun _ z => z.elim, .cons (.lst (rd_of_sq hK hS) (fun z => z) rpA_ints) .nil, h, fun v H' _ r => by cases r; rfl⟩
theorem CstOk.nil {K : PySem.W.Frag} {mg : Str → Option Value} : CstOk K mg [] := fun _ _ h => nomatch h
theorem builtins_none {mg : Str → Option Value} (h0 : mg "len" = none) (h1 : mg "abs" = none) (h2 : mg "int" = none) (h3 : mg "min" = none) (h4 : mg "max" = none) (h5 : mg "sum" = none) (h6 : mg "sorted" = none) (h7 : mg "list" = none) (h8 : mg "tuple" = none) (h9 : mg "isinstance" = none) (h10 : mg "bool" = none) (h11 : mg "str" = none) (h12 : mg "range" = none) (h13 : mg "repr" = none) (h14 : mg "set" = none) : ∀ x ∈ builtinsUsed, mg x = none := by
  intro x hx
  unfold builtinsUsed at hx
  simp only [List.mem_cons, List.not_mem_nil, or_false] at hx
  rcases hx with rfl | rfl | rfl | rfl | rfl | rfl | rfl | rfl | rfl | rfl | rfl | rfl | rfl | rfl | rfl <;> assumption
end PV

set_option Elab.async false
set_option linter.all false
set_option maxRecDepth 100000
set_option maxHeartbeats 4000000
/-! PVM: plain rules over natural numbers. -/
namespace PV
open PySem L2
/-- a natural number as data -/
def N (n : Nat) : PyData := .int n
abbrev sN (n : Nat) : Option R := some (false, N n)
theorem N_def (n : Nat) : PyData.int (n : Int) = N n := rfl
theorem N_zero : PyData.int 0 = N 0 := rfl
theorem N_one : PyData.int 1 = N 1 := rfl
theorem N_inj {a b : Nat} : N a = N b ↔ a = b := ⟨fun h => by unfold N at h; injection h with h; omega, fun h => by rw [h]⟩
theorem log2_lt {a : Nat} (h : a < 2 ^ 400000) : a.log2 < 400000 := by
  by_cases h0 : a = 0
  · subst h0; rw [Nat.log2_zero]; omega
  · exact (Nat.log2_lt h0).mpr h
def big (a : Nat) : Prop := a < 2 ^ 400000
theorem n_add (a b : Nat) : evBin .add (N a) (N b) = some (false, N (a + b)) := by
  show some (false, PyData.int ((a : Int) + b)) = some (false, PyData.int ((a + b : Nat) : Int))
  rw [Int.natCast_add]
theorem n_sub {a b : Nat} (h : b ≤ a) : evBin .sub (N a) (N b) = some (false, N (a - b)) := by
  show some (false, PyData.int ((a : Int) - b)) = some (false, PyData.int ((a - b : Nat) : Int))
  rw [Int.natCast_sub h]
theorem small_lt {a : Nat} (h : a < 2 ^ 64) : a.log2 < 64 := by
  by_cases h0 : a = 0
  · subst h0; rw [Nat.log2_zero]; omega
  · exact (Nat.log2_lt h0).mpr h
theorem n_mul {a b : Nat} (ha : a < 2 ^ 64) (hb : b < 2 ^ 64) : evBin .mul (N a) (N b) = some (false, N (a * b)) := by
  have hm : mulOk (a : Int) (b : Int) = true := by
    unfold mulOk
    have h1 := small_lt ha
    have h2 := small_lt hb
    simp only [Int.natAbs_natCast, Nat.blt_eq]
    omega
  show (if mulOk (a : Int) (b : Int) then some (false, PyData.int ((a : Int) * b)) else none) = some (false, PyData.int ((a * b : Nat) : Int))
  rw [if_pos hm, Int.natCast_mul]
theorem n_mod {a b : Nat} (h : 0 < b) : evBin .mod (N a) (N b) = some (false, N (a % b)) := by
  show (if decide ((0 : Int) < (b : Int)) then some (false, PyData.int ((a : Int) % b)) else none) = some (false, PyData.int ((a % b : Nat) : Int))
  rw [if_pos (decide_eq_true (by omega)), Int.natCast_emod]
theorem n_div {a b : Nat} (h : 0 < b) (hb : b < 2 ^ 64) : evBin .fdiv (N a) (N b) = some (false, N (a / b)) := by
  have hm : divOk (b : Int) = true := by
    unfold divOk
    have h2 := small_lt hb
    simp only [Int.natAbs_natCast, Nat.blt_eq, Bool.and_eq_true, decide_eq_true_eq]
    omega
  show (if divOk (b : Int) then some (false, PyData.int ((a : Int).fdiv b)) else none) = some (false, PyData.int ((a / b : Nat) : Int))
  rw [if_pos hm, Int.fdiv_eq_ediv_of_nonneg _ (by omega), Int.natCast_ediv]
theorem n_shl {a b : Nat} (ha : a < 2 ^ 64) (hb : b ≤ 1000000) : evBin .shl (N a) (N b) = some (false, N (a * 2 ^ b)) := by
  have hm : powOk (a : Int) (b : Int) = true := by
    unfold powOk
    simp only [Int.natAbs_natCast, Nat.blt_eq, Bool.and_eq_true, decide_eq_true_eq]
    omega
  show (if powOk (a : Int) (b : Int) then some (false, PyData.int ((a : Int) * 2 ^ (b : Int).toNat)) else none) = some (false, PyData.int ((a * 2 ^ b : Nat) : Int))
  rw [if_pos hm, Int.toNat_natCast, Int.natCast_mul, Int.natCast_pow]
  rfl
theorem n_shr (a b : Nat) : evBin .shr (N a) (N b) = some (false, N (a / 2 ^ b)) := by
  show (if decide ((0 : Int) ≤ (b : Int)) then some (false, PyData.int ((a : Int) / 2 ^ (b : Int).toNat)) else none) = some (false, PyData.int ((a / 2 ^ b : Nat) : Int))
  rw [if_pos (decide_eq_true (by omega)), Int.toNat_natCast, Int.natCast_ediv, Int.natCast_pow]
  rfl
theorem n_band (a b : Nat) : evBin .band (N a) (N b) = some (false, N (a &&& b)) := by
  show some (false, PyData.int (Builtin.bitAnd a b)) = _
  rfl
theorem n_bor (a b : Nat) : evBin .bor (N a) (N b) = some (false, N (a ||| b)) := by
  have e : ∀ c : Nat, Builtin.bitNot (Builtin.bitNot (c : Int)) = c := fun c => by unfold Builtin.bitNot; omega
  have d : ∀ c : Nat, decide (0 ≤ Builtin.bitNot (c : Int)) = false := fun c => decide_eq_false (by unfold Builtin.bitNot; omega)
  show some (false, PyData.int (Builtin.bitOr a b)) = _
  unfold Builtin.bitOr Builtin.bitAnd
  rw [d a, d b]
  show some (false, PyData.int (Builtin.bitNot (Builtin.bitNot (((Builtin.bitNot (Builtin.bitNot (a : Int))).toNat ||| (Builtin.bitNot (Builtin.bitNot (b : Int))).toNat : Nat) : Int)))) = _
  rw [e, e, e, Int.toNat_natCast, Int.toNat_natCast]
  rfl
theorem n_eq (a b : Nat) : evCmp .eq (N a) (N b) = some (decide (a = b)) := by
  show some (decide ((a : Int) = (b : Int))) = some (decide (a = b))
  simp only [Int.ofNat_inj]
theorem n_ne (a b : Nat) : evCmp .ne (N a) (N b) = some (!decide (a = b)) := by
  show some (!decide ((a : Int) = (b : Int))) = some (!decide (a = b))
  simp only [Int.ofNat_inj]
theorem n_lt (a b : Nat) : evCmp .lt (N a) (N b) = some (decide (a < b)) := by
  show some (decide ((a : Int) < (b : Int))) = some (decide (a < b))
  simp only [Int.ofNat_lt]
theorem n_gt (a b : Nat) : evCmp .gt (N a) (N b) = some (decide (b < a)) := by
  show some (decide ((b : Int) < (a : Int))) = some (decide (b < a))
  simp only [Int.ofNat_lt]
theorem n_le (a b : Nat) : evCmp .le (N a) (N b) = some (decide (a ≤ b)) := by
  show some (decide ((a : Int) ≤ (b : Int))) = some (decide (a ≤ b))
  simp only [Int.ofNat_le]
theorem n_ge (a b : Nat) : evCmp .ge (N a) (N b) = some (decide (b ≤ a)) := by
  show some (decide ((b : Int) ≤ (a : Int))) = some (decide (b ≤ a))
  simp only [Int.ofNat_le]
theorem lenOk_of {n : Nat} (h : n ≤ 16777216) : lenOk n = true := Nat.ble_eq_true_of_le h
theorem smallN {a : Nat} (h : a ≤ 1000000000) : smallI (a : Int) = true := by
  unfold smallI
  simp only [Bool.and_eq_true, decide_eq_true_eq]
  omega
theorem rngI_N (a n : Nat) : rngI (a : Int) n = (List.range' a n).map N := by
  unfold rngI
  rw [List.range'_eq_map_range, List.map_map]
  exact List.map_congr_left fun k _ => by simp [N]
theorem n_rng1 {n : Nat} (h : n ≤ 1000000) : evRng [N n] = some ((List.range n).map N) := by
  show (if smallI (n : Int) && lenOk (n : Int).toNat then some (rngI 0 (n : Int).toNat) else none) = _
  rw [smallN (by omega), Int.toNat_natCast, lenOk_of (by omega)]
  show some (rngI ((0 : Nat) : Int) n) = _
  rw [rngI_N, List.range_eq_range']
theorem n_rng2 {a b : Nat} (ha : a ≤ 1000000) (h : b ≤ 1000000) : evRng [N a, N b] = some ((List.range' a (b - a)).map N) := by
  have e : ((b : Int) - (a : Int)).toNat = b - a := by omega
  show (if smallI (a : Int) && smallI (b : Int) && lenOk ((b : Int) - (a : Int)).toNat then some (rngI (a : Int) ((b : Int) - (a : Int)).toNat) else none) = _
  rw [smallN (by omega), smallN (by omega), e, lenOk_of (by omega), rngI_N]
  rfl
/-- comprehensions -/
theorem compGo_map {α β : Type} {f : PyData → Option (Option PyData)} {enc : α → PyData} {en2 : β → PyData} (g : α → Option β) : ∀ (l : List α), (∀ x ∈ l, f (enc x) = some ((g x).map en2)) → compGo f (l.map enc) = some ((l.filterMap g).map en2)
  | [], _ => rfl
  | x :: l, h => by
    have ih := compGo_map g l fun y hy => h y (List.mem_cons_of_mem _ hy)
    rw [List.map_cons]
    unfold compGo
    rw [h x List.mem_cons_self]
    cases e : g x with
    | none => rw [List.filterMap_cons_none e]; exact ih
    | some y => rw [List.filterMap_cons_some e]; show (match compGo f (l.map enc) with | none => none | some ys => some (en2 y :: ys)) = _; rw [ih]; rfl
theorem compGo2_map {α β : Type} {f : PyData → Option (List PyData)} {enc : α → PyData} {en2 : β → PyData} (g : α → List β) : ∀ (l : List α), (∀ x ∈ l, f (enc x) = some ((g x).map en2)) → compGo2 f (l.map enc) = some ((l.flatMap g).map en2)
  | [], _ => rfl
  | x :: l, h => by
    have ih := compGo2_map g l fun y hy => h y (List.mem_cons_of_mem _ hy)
    rw [List.map_cons]
    unfold compGo2
    rw [h x List.mem_cons_self]
    show (match compGo2 f (l.map enc) with | none => none | some ys => some ((g x).map en2 ++ ys)) = _
    rw [ih, List.flatMap_cons, List.map_append]
theorem intsOf_N : ∀ l : List Nat, intsOf (l.map N) = some (l.map fun n : Nat => (n : Int))
  | [] => rfl
  | x :: l => by
    rw [List.map_cons, List.map_cons]
    show (intsOf (l.map N)).map _ = _
    rw [intsOf_N l]
    rfl
theorem n_sum (l : List Nat) : evBI .sum [.list (l.map N)] = some (false, N l.sum) := by
  show (intsOf (l.map N)).map _ = _
  rw [intsOf_N]
  have e : (l.map fun n : Nat => (n : Int)).sum = (l.sum : Int) := by
    induction l with
    | nil => rfl
    | cons x l ih => rw [List.map_cons, List.sum_cons, List.sum_cons, ih, Int.natCast_add]
  show some (false, PyData.int (l.map fun n : Nat => (n : Int)).sum) = _
  rw [e]
  rfl
theorem n_len (l : List PyData) : evBI .len [.list l] = some (false, N l.length) := rfl
end PV
namespace PV
open PySem L2
/-- a loop that runs to its end -/
theorem forGo_ind {α : Type} {g : G} {f : Sl → Option Out} (enc : α → PyData) (I : List α → Sl → Prop) : ∀ (l done : List α) (ρ : Sl), I done ρ →
    (∀ (pre : List α) (x : α) (suf : List α) (ρ : Sl), done ++ l = pre ++ x :: suf → I pre ρ → ∃ ρ1 ρ2, asg g (enc x) ρ = some ρ1 ∧ f ρ1 = some (.nx ρ2) ∧ I (pre ++ [x]) ρ2) → ∃ ρ', forGo g f (l.map enc) ρ = some (.nx ρ') ∧ I (done ++ l) ρ'
  | [], done, ρ, h0, _ => ⟨ρ, rfl, by rw [List.append_nil]; exact h0⟩
  | x :: l, done, ρ, h0, hs => by
    obtain ⟨ρ1, ρ2, e1, e2, h2⟩ := hs done x l ρ rfl h0
    have ea : done ++ [x] ++ l = done ++ x :: l := by rw [List.append_assoc]; rfl
    obtain ⟨ρ', e3, h3⟩ := forGo_ind enc I l (done ++ [x]) ρ2 h2 fun pre y suf ρ he => hs pre y suf ρ (ea ▸ he)
    refine ⟨ρ', ?_, ea ▸ h3⟩
    rw [List.map_cons, forGo, e1]
    show (match f ρ1 with | some (.nx ρ2) => forGo g f (l.map enc) ρ2 | some (.ct ρ2) => forGo g f (l.map enc) ρ2 | some (.bk ρ2) => some (.nx ρ2) | some (.rt r) => some (.rt r) | none => none) = _
    rw [e2]
    exact e3
theorem forGo_do {α : Type} {g : G} {f : Sl → Option Out} (enc : α → PyData) (I : List α → Sl → Prop) {l : List α} {ρ : Sl} (h0 : I [] ρ)
    (hs : ∀ (pre : List α) (x : α) (suf : List α) (ρ : Sl), l = pre ++ x :: suf → I pre ρ → ∃ ρ1 ρ2, asg g (enc x) ρ = some ρ1 ∧ f ρ1 = some (.nx ρ2) ∧ I (pre ++ [x]) ρ2) : ∃ ρ', forGo g f (l.map enc) ρ = some (.nx ρ') ∧ I l ρ' :=
  forGo_ind enc I l [] ρ h0 hs
theorem filterMap_some {α β : Type} (f : α → β) (l : List α) : l.filterMap (fun x => some (f x)) = l.map f := by
  induction l with
  | nil => rfl
  | cons x l ih => simp [ih]
theorem sum_const {α : Type} (w : Nat) (l : List α) : (l.map fun _ => w).sum = l.length * w := by
  induction l with
  | nil => simp
  | cons x l ih => rw [List.map_cons, List.sum_cons, ih, List.length_cons, Nat.succ_mul, Nat.add_comm]
end PV
namespace PV
theorem lenOk_0 : lenOk 0 = true := rfl
theorem lenOk_1 : lenOk 1 = true := rfl
theorem lenOk_2 : lenOk 2 = true := rfl
theorem lenOk_3 : lenOk 3 = true := rfl
theorem lenOk_4 : lenOk 4 = true := rfl
theorem lenOk_5 : lenOk 5 = true := rfl
theorem lenOk_6 : lenOk 6 = true := rfl
theorem lenOk_7 : lenOk 7 = true := rfl
theorem lenOk_8 : lenOk 8 = true := rfl
theorem n_rng2' {a b : Nat} (ha : a ≤ 1000) (h : b ≤ 1000) : evRng [N a, N b] = some ((List.range' a (b - a)).map N) := n_rng2 (Nat.le_trans ha (by decide)) (Nat.le_trans h (by decide))
end PV
namespace PV
open PySem L2
theorem q_lit (n : Nat) : PyData.int (@OfNat.ofNat Int n instOfNat) = N n := Eq.trans rfl (Eq.refl _)
def minN : Nat → List Nat → Nat
  | m, [] => m
  | m, x :: xs => minN (if x < m then x else m) xs
def insN (x : Nat) : List Nat → List Nat
  | [] => [x]
  | y :: ys => if x ≤ y then x :: y :: ys else y :: insN x ys
def sortN : List Nat → List Nat
  | [] => []
  | x :: xs => insN x (sortN xs)
def dedupN : List Nat → List Nat
  | [] => []
  | x :: xs => if xs.contains x then dedupN xs else x :: dedupN xs
abbrev casts (l : List Nat) : List Int := l.map fun n : Nat => (n : Int)
theorem minI_N : ∀ (l : List Nat) (m : Nat), minI (m : Int) (casts l) = (minN m l : Int)
  | [], m => rfl
  | x :: l, m => by
    show minI (if (x : Int) < (m : Int) then (x : Int) else (m : Int)) (casts l) = (minN (if x < m then x else m) l : Int)
    by_cases h : x < m
    · rw [if_pos h, if_pos (by omega)]; exact minI_N l x
    · rw [if_neg h, if_neg (by omega)]; exact minI_N l m
theorem insI_N (x : Nat) : ∀ l : List Nat, insI (x : Int) (casts l) = casts (insN x l)
  | [] => rfl
  | y :: l => by
    show (if (x : Int) ≤ (y : Int) then (x : Int) :: (y : Int) :: casts l else (y : Int) :: insI (x : Int) (casts l)) = casts (if x ≤ y then x :: y :: l else y :: insN x l)
    by_cases h : x ≤ y
    · rw [if_pos h, if_pos (by omega)]; rfl
    · rw [if_neg h, if_neg (by omega), insI_N x l]; rfl
theorem sortI_N : ∀ l : List Nat, sortI (casts l) = casts (sortN l)
  | [] => rfl
  | x :: l => by
    show insI (x : Int) (sortI (casts l)) = casts (insN x (sortN l))
    rw [sortI_N l, insI_N]
theorem contains_N (x : Nat) (l : List Nat) : (casts l).contains (x : Int) = l.contains x := by
  rw [Bool.eq_iff_iff, List.contains_iff_mem, List.contains_iff_mem, List.mem_map]
  constructor
  · rintro ⟨a, h1, h2⟩
    have : a = x := by omega
    rw [← this]; exact h1
  · intro h; exact ⟨x, h, rfl⟩
theorem dedupI_N : ∀ l : List Nat, dedupI (casts l) = casts (dedupN l)
  | [] => rfl
  | x :: l => by
    show (if (casts l).contains (x : Int) then dedupI (casts l) else (x : Int) :: dedupI (casts l)) = casts (if l.contains x then dedupN l else x :: dedupN l)
    rw [contains_N, dedupI_N l]
    cases l.contains x <;> rfl
theorem casts_N (l : List Nat) : (casts l).map PyData.int = l.map N := by
  rw [List.map_map]; rfl
theorem n_min (x : Nat) (l : List Nat) : evBI .min [.list ((x :: l).map N)] = some (false, N (minN x l)) := by
  show (intsOf ((x :: l).map N)).bind _ = _
  rw [intsOf_N]
  show some (false, PyData.int (minI (x : Int) (casts l))) = _
  rw [minI_N]; rfl
theorem n_sset {l : List Nat} (h : l.length < 64) : evBI .sortedSet [.list (l.map N)] = some (true, .list ((sortN (dedupN l)).map N)) := by
  show (intsOf (l.map N)).bind _ = _
  rw [intsOf_N]
  show (if Nat.blt (casts l).length 64 then some (true, PyData.list ((sortI (dedupI (casts l))).map PyData.int)) else none) = _
  have hb : Nat.blt (casts l).length 64 = true := Nat.ble_eq_true_of_le (by rw [List.length_map]; exact h)
  rw [if_pos hb, dedupI_N, sortI_N, casts_N]
/-- the items that are kept -/
def keepIf {α : Type} (p : α → Bool) (l : List α) : List α := l.filterMap fun x => if p x then some x else none
end PV
namespace PV
open PySem L2
theorem atI_N {α : Type} (ds : List α) (i : Nat) : L2.atI ds (i : Int) = ds[i]? := by
  unfold L2.atI L2.ixN
  rw [if_pos (by omega : (0 : Int) ≤ (i : Int))]
  by_cases h : i < ds.length
  · rw [if_pos (by omega), Option.bind_some, Int.toNat_natCast]
  · rw [if_neg (by omega), List.getElem?_eq_none (by omega)]
    rfl
theorem n_ixt (ds : List PyData) (i : Nat) : evIx (.tuple ds) (N i) = (ds[i]?).map fun d => (false, d) := by
  show (L2.atI ds (i : Int)).map _ = _
  rw [atI_N]
theorem n_ixl (ds : List PyData) (i : Nat) : evIx (.list ds) (N i) = (ds[i]?).map fun d => (false, d) := by
  show (L2.atI ds (i : Int)).map _ = _
  rw [atI_N]
theorem q_isn (d : PyData) : evCmp .isn d .none = some (isNone d) := by cases d <;> rfl
theorem q_notn (d : PyData) : evCmp .notn d .none = some (!isNone d) := by cases d <;> rfl
end PV
namespace PV
open PySem L2
theorem q_l2 : PyData.int 2 = N 2 := Eq.trans rfl (Eq.refl _)
theorem q_l3 : PyData.int 3 = N 3 := Eq.trans rfl (Eq.refl _)
theorem q_l4 : PyData.int 4 = N 4 := Eq.trans rfl (Eq.refl _)
theorem q_l5 : PyData.int 5 = N 5 := Eq.trans rfl (Eq.refl _)
theorem q_l6 : PyData.int 6 = N 6 := Eq.trans rfl (Eq.refl _)
theorem q_l7 : PyData.int 7 = N 7 := Eq.trans rfl (Eq.refl _)
theorem q_l8 : PyData.int 8 = N 8 := Eq.trans rfl (Eq.refl _)
theorem q_l9 : PyData.int 9 = N 9 := Eq.trans rfl (Eq.refl _)
theorem q_l10 : PyData.int 10 = N 10 := Eq.trans rfl (Eq.refl _)
theorem q_l11 : PyData.int 11 = N 11 := Eq.trans rfl (Eq.refl _)
theorem q_l12 : PyData.int 12 = N 12 := Eq.trans rfl (Eq.refl _)
theorem q_l13 : PyData.int 13 = N 13 := Eq.trans rfl (Eq.refl _)
end PV
namespace PV
open PySem L2
/-- comparison with the empty list -/
theorem eqv_nil (ds : List PyData) : PyData.eqv (.list ds) (.list []) = ds.isEmpty := by cases ds <;> rfl
theorem n_eqNil {ds : List PyData} (h : dok (.list ds) = true) : evCmp .eq (.list ds) (.list []) = some ds.isEmpty := by
  show (if dok (.list ds) && dok (.list []) then some (PyData.eqv (.list ds) (.list [])) else none) = _
  rw [h, eqv_nil]; rfl
theorem n_neNil {ds : List PyData} (h : dok (.list ds) = true) : evCmp .ne (.list ds) (.list []) = some (!ds.isEmpty) := by
  show (if dok (.list ds) && dok (.list []) then some (!PyData.eqv (.list ds) (.list [])) else none) = _
  rw [h, eqv_nil]; rfl
end PV
namespace PV
open PySem L2
/-- data that may be compared: k deep at most -/
def DK (k : Nat) (d : PyData) : Prop := d.depth ≤ k ∧ d.plain = true
theorem dk_N {k : Nat} (n : Nat) : DK k (N n) := by unfold DK N; simp [PyData.depth, PyData.plain]
theorem dk_int {k : Nat} (i : Int) : DK k (.int i) := by unfold DK; simp [PyData.depth, PyData.plain]
theorem dk_all {k : Nat} : ∀ {ds : List PyData}, (∀ d ∈ ds, DK k d) → PyData.depthAll ds ≤ k ∧ PyData.plainAll ds = true
  | [], _ => by simp [PyData.depthAll, PyData.plainAll]
  | d :: ds, h => by
    have h1 := h d List.mem_cons_self
    have h2 := dk_all fun x hx => h x (List.mem_cons_of_mem _ hx)
    simp only [PyData.depthAll, PyData.plainAll, h1.2, h2.2, Bool.and_self, and_true]
    exact Nat.max_le.mpr ⟨h1.1, h2.1⟩
theorem dk_list {k : Nat} {ds : List PyData} (h : ∀ d ∈ ds, DK k d) : DK (k + 1) (.list ds) := by
  have h2 := dk_all h
  unfold DK
  simp only [PyData.depth, PyData.plain, h2.2, and_true]
  omega
theorem dk_tuple {k : Nat} {ds : List PyData} (h : ∀ d ∈ ds, DK k d) : DK (k + 1) (.tuple ds) := by
  have h2 := dk_all h
  unfold DK
  simp only [PyData.depth, PyData.plain, h2.2, and_true]
  omega
theorem DK.mono {k j : Nat} {d : PyData} (h : DK k d) (hk : k ≤ j) : DK j d := ⟨Nat.le_trans h.1 hk, h.2⟩
theorem DK.dok {k : Nat} {d : PyData} (h : DK k d) (hk : k ≤ 50) : dok d = true := by
  unfold PV.dok
  rw [h.2, Bool.and_true]
  exact Nat.ble_eq_true_of_le (Nat.le_trans h.1 hk)
theorem dk_map {α : Type} {k : Nat} {enc : α → PyData} {l : List α} (h : ∀ x, DK k (enc x)) : ∀ d ∈ l.map enc, DK k d := fun d hd => by
  obtain ⟨x, _, rfl⟩ := List.mem_map.mp hd
  exact h x
theorem dk_two {k : Nat} {a b : PyData} (h1 : DK k a) (h2 : DK k b) : ∀ d ∈ [a, b], DK k d := fun d hd => by
  rcases List.mem_cons.mp hd with rfl | hd
  · exact h1
  · rw [List.mem_singleton.mp hd]; exact h2
end PV
namespace PV
open PySem L2
theorem n_sorted {ds : List PyData} (hi : intsOf ds = none) (h : sdok ds = true) : evBI .sorted [.list ds] = some (true, .list (ds.mergeSort (W.dataLe false fun d => d))) := by
  show (match intsOf ds with | some l => some (true, PyData.list ((sortI l).map PyData.int)) | none => if sdok ds then some (true, PyData.list (ds.mergeSort (W.dataLe false fun d => d))) else none) = _
  rw [hi, h]; rfl
theorem n_sortedNil : evBI .sorted [.list []] = some (true, .list []) := Eq.trans rfl (Eq.refl _)
/-- sorted of what may be sorted, in some order -/
theorem n_sortedP {ds : List PyData} (h : sdok ds = true) (hi : ∀ d ∈ ds, d.isInt = false) : ∃ es, evBI .sorted [.list ds] = some (true, .list es) ∧ es.Perm ds := by
  cases ds with
  | nil => exact ⟨[], n_sortedNil, .nil⟩
  | cons d ds =>
    have hn : intsOf (d :: ds) = none := by
      have := hi d List.mem_cons_self
      cases d <;> first | rfl | cases this
    exact ⟨_, n_sorted hn h, List.mergeSort_perm _ _⟩
end PV
namespace PV
theorem lenOk_9 : lenOk 9 = true := rfl
theorem lenOk_10 : lenOk 10 = true := rfl
theorem lenOk_11 : lenOk 11 = true := rfl
theorem lenOk_12 : lenOk 12 = true := rfl
end PV

set_option Elab.async false
set_option linter.all false
set_option maxRecDepth 100000
set_option maxHeartbeats 4000000
set_option autoImplicit true
set_option relaxedAutoImplicit true
/-! PVQ: the evaluator's equations, as rules for simp. -/
namespace PV
open PySem L2
def asI : PyData → Option Int
  | .int i => some i
  | _ => none
theorem asI_N (n : Nat) : asI (N n) = some (n : Int) := Eq.trans rfl (Eq.refl _)
theorem asI_i (i : Int) : asI (.int i) = some i := Eq.trans rfl (Eq.refl _)
def blk (n : Nat) (b : Ss) : Sl → Option Out := fun ρ => evSs n b ρ
def tst (c : E) : Sl → Option Bool := fun ρ => evT c ρ
theorem wh_true {c : Sl → Option Bool} {f : Sl → Option Out} {n : Nat} {ρ ρ2 : Sl} (h1 : c ρ = some true) (h2 : f ρ = some (.nx ρ2)) : whileGo c f (n + 1) ρ = whileGo c f n ρ2 := by rw [whileGo, h1, h2]
theorem wh_rt {c : Sl → Option Bool} {f : Sl → Option Out} {n : Nat} {ρ : Sl} {r : R} (h1 : c ρ = some true) (h2 : f ρ = some (.rt r)) : whileGo c f (n + 1) ρ = some (.rt r) := by rw [whileGo, h1, h2]
theorem wh_false {c : Sl → Option Bool} {f : Sl → Option Out} {n : Nat} {ρ : Sl} (h1 : c ρ = some false) : whileGo c f (n + 1) ρ = some (.nx ρ) := by rw [whileGo, h1]
theorem fr_nil {g : G} {f : Sl → Option Out} {ρ : Sl} : forGo g f [] ρ = some (.nx ρ) := Eq.trans rfl (Eq.refl _)
theorem fr_nx {g : G} {f : Sl → Option Out} {d : PyData} {ds : List PyData} {ρ ρ1 ρ2 : Sl} (h1 : asg g d ρ = some ρ1) (h2 : f ρ1 = some (.nx ρ2)) : forGo g f (d :: ds) ρ = forGo g f ds ρ2 := by rw [forGo, h1]; show (match f ρ1 with | some (.nx ρ2) => forGo g f ds ρ2 | some (.ct ρ2) => forGo g f ds ρ2 | some (.bk ρ2) => some (.nx ρ2) | some (.rt r) => some (.rt r) | none => none) = _; rw [h2]
theorem fr_rt {g : G} {f : Sl → Option Out} {d : PyData} {ds : List PyData} {ρ ρ1 : Sl} {r : R} (h1 : asg g d ρ = some ρ1) (h2 : f ρ1 = some (.rt r)) : forGo g f (d :: ds) ρ = some (.rt r) := by rw [forGo, h1]; show (match f ρ1 with | some (.nx ρ2) => forGo g f ds ρ2 | some (.ct ρ2) => forGo g f ds ρ2 | some (.bk ρ2) => some (.nx ρ2) | some (.rt r) => some (.rt r) | none => none) = _; rw [h2]
theorem q_bind {α β : Type} {a : α} {f : α → Option β} : (some a).bind f = f a := Eq.trans rfl (Eq.refl _)
theorem q_bindn {α β : Type} {f : α → Option β} : (none : Option α).bind f = none := Eq.trans rfl (Eq.refl _)
theorem q_map {α β : Type} {a : α} {f : α → β} : (some a).map f = some (f a) := Eq.trans rfl (Eq.refl _)
theorem q_mapn {α β : Type} {f : α → β} : (none : Option α).map f = none := Eq.trans rfl (Eq.refl _)
theorem q_one : PyData.int 1 = N 1 := Eq.trans rfl (Eq.refl _)
theorem q_zero : PyData.int 0 = N 0 := Eq.trans rfl (Eq.refl _)
theorem q_evT : evT e ρ = (evE e true ρ).bind fun r => (match r.2 with
  | .bool k => some k
  | _ => none) := Eq.trans rfl (Eq.refl _)
theorem q_own : own ρ i = (match ρ[i]? with
  | some (some (true, .list ds)) => some ds
  | _ => none) := Eq.trans rfl (Eq.refl _)
theorem q_ret : evRet (.v i) ρ = (match ρ[i]? with
  | some (some r) => some r
  | _ => none) := Eq.trans rfl (Eq.refl _)
theorem q_wipeR_1 : wipeR ρ ([]) = (ρ) := Eq.trans rfl (Eq.refl _)
theorem q_wipeR_2 : wipeR ρ (v :: vs) = ((wipeR ρ vs).set v none) := Eq.trans rfl (Eq.refl _)
theorem q_asg_1 : asg (.nm i) (d) (ρ) = (some (ρ.set i (some (false, d)))) := Eq.trans rfl (Eq.refl _)
theorem q_asg_2 : asg (.two a b) (.tuple [x, y]) (ρ) = ((asg a x ρ).bind fun ρ1 => asg b y ρ1) := Eq.trans rfl (Eq.refl _)
theorem q_asg_3 : asg (.thr a b c) (.tuple [x, y, z]) (ρ) = ((asg a x ρ).bind fun ρ1 => (asg b y ρ1).bind fun ρ2 => asg c z ρ2) := Eq.trans rfl (Eq.refl _)
theorem q_asg_4 : asg (.fou a b c d) (.tuple [x, y, z, u]) (ρ) = ((asg a x ρ).bind fun ρ1 => (asg b y ρ1).bind fun ρ2 => (asg c z ρ2).bind fun ρ3 => asg d u ρ3) := Eq.trans rfl (Eq.refl _)
theorem q_asgR_1 : asgR (.nm i) (r) (ρ) = (some (ρ.set i (some r))) := Eq.trans rfl (Eq.refl _)
theorem q_ownedArg_1 : ownedArg ρ (.v i) = (match ρ[i]? with
      | some (some (true, _)) => true
      | _ => false) := Eq.trans rfl (Eq.refl _)
theorem q_ownedArgs_1 : ownedArgs ρ (.nil) = (false) := Eq.trans rfl (Eq.refl _)
theorem q_ownedArgs_2 : ownedArgs ρ (.cons e es) = (ownedArg ρ e || ownedArgs ρ es) := Eq.trans rfl (Eq.refl _)
theorem q_itemsOf_1 : itemsOf (.list ds) = (some ds) := Eq.trans rfl (Eq.refl _)
theorem q_itemsOf_2 : itemsOf (.tuple ds) = (some ds) := Eq.trans rfl (Eq.refl _)
theorem q_evE_1 : evE (.v i) (b) (ρ) = (match ρ[i]? with
      | some (some (fl, d)) => if fl && !b then none else some (false, d)
      | _ => none) := Eq.trans rfl (Eq.refl _)
theorem q_evE_2 : evE (.c d) (u0) (u1) = (some (false, d)) := Eq.trans rfl (Eq.refl _)
theorem q_evE_3 : evE (.bin o x y) (u0) (ρ) = ((evE x true ρ).bind fun r => (evE y true ρ).bind fun s => evBin o r.2 s.2) := Eq.trans rfl (Eq.refl _)
theorem q_evE_4 : evE (.neg x) (u0) (ρ) = ((evE x true ρ).bind fun r => evNeg r.2) := Eq.trans rfl (Eq.refl _)
theorem q_evE_5 : evE (.cmp o x y) (u0) (ρ) = ((evE x true ρ).bind fun r => (evE y true ρ).bind fun s => (evCmp o r.2 s.2).map fun k => (false, .bool k)) := Eq.trans rfl (Eq.refl _)
theorem q_evE_6 : evE (.chain o p x y z) (u0) (ρ) = ((evE x true ρ).bind fun r => (evE y true ρ).bind fun s => (evCmp o r.2 s.2).bind fun k => match k with
      | false => some (false, .bool false)
      | true => (evE z true ρ).bind fun t => (evCmp p s.2 t.2).map fun k => (false, .bool k)) := Eq.trans rfl (Eq.refl _)
theorem q_evE_7 : evE (.and x y) (b) (ρ) = ((evE x true ρ).bind fun r => match r.2 with
      | .bool true => evE y b ρ
      | .bool false => some (false, .bool false)
      | _ => none) := Eq.trans rfl (Eq.refl _)
theorem q_evE_8 : evE (.or x y) (b) (ρ) = ((evE x true ρ).bind fun r => match r.2 with
      | .bool false => evE y b ρ
      | .bool true => some (false, .bool true)
      | _ => none) := Eq.trans rfl (Eq.refl _)
theorem q_evE_9 : evE (.not x) (u0) (ρ) = ((evE x true ρ).bind fun r => match r.2 with
      | .bool k => some (false, .bool (!k))
      | _ => none) := Eq.trans rfl (Eq.refl _)
theorem q_evE_10 : evE (.ite c x y) (b) (ρ) = ((evE c true ρ).bind fun r => match r.2 with
      | .bool true => evE x b ρ
      | .bool false => evE y b ρ
      | _ => none) := Eq.trans rfl (Eq.refl _)
theorem q_evE_11 : evE (.tup es) (u0) (ρ) = ((evEs es false ρ).bind fun ds => if lenOk ds.length then some (false, .tuple ds) else none) := Eq.trans rfl (Eq.refl _)
theorem q_evE_12 : evE (.lst es) (u0) (ρ) = ((evEs es false ρ).bind fun ds => if lenOk ds.length then some (true, .list ds) else none) := Eq.trans rfl (Eq.refl _)
theorem q_evE_13 : evE (.ix x i) (u0) (ρ) = ((evE x true ρ).bind fun r => (evE i true ρ).bind fun s => evIx r.2 s.2) := Eq.trans rfl (Eq.refl _)
theorem q_evE_14 : evE (.sl x lo hi) (u0) (ρ) = ((evE x true ρ).bind fun r => (evP lo ρ).bind fun l => (evP hi ρ).bind fun h => evSl r.2 l h) := Eq.trans rfl (Eq.refl _)
theorem q_evE_15 : evE (.rev x) (u0) (ρ) = ((evE x true ρ).bind fun r => match r.2 with
      | .list ds => some (true, .list ds.reverse)
      | .tuple ds => some (false, .tuple ds.reverse)
      | _ => none) := Eq.trans rfl (Eq.refl _)
theorem q_evE_16 : evE (.rngl es) (u0) (ρ) = ((evEs es true ρ).bind fun ds => (evRng ds).map fun l => (true, .list l)) := Eq.trans rfl (Eq.refl _)
theorem q_evE_17 : evE (.call f es) (u0) (ρ) = (if ownedArgs ρ es then (evEs es true ρ).bind fun ds => (f ds).bind fun r => if nolistR r then some r else none else (evEs es false ρ).bind f) := Eq.trans rfl (Eq.refl _)
theorem q_evE_18 : evE (.bi b es) (u0) (ρ) = ((evEs es true ρ).bind fun ds => evBI b ds) := Eq.trans rfl (Eq.refl _)
theorem q_evE_19 : evE (.comp ow g it c elt) (u0) (ρ) = ((evI it true ρ).bind fun ds => (compGo (fun d => (asg g d (wipeR ρ ow)).bind fun ρ2 => (evC c ρ2).bind fun k => match k with
        | false => some none
        | true => (evE elt false ρ2).map fun r => some r.2) ds).map fun ys => (true, .list ys)) := Eq.trans rfl (Eq.refl _)
theorem q_evE_20 : evE (.comp2 ow g it c own1 g1 it1 c1 elt) (u0) (ρ) = ((evI it true ρ).bind fun ds => (compGo2 (fun d => (asg g d (wipeR ρ ow)).bind fun ρ2 => (evC c ρ2).bind fun k => match k with
        | false => some []
        | true => (evI it1 true ρ2).bind fun ds1 => compGo (fun d1 => (asg g1 d1 (wipeR ρ2 own1)).bind fun ρ3 => (evC c1 ρ3).bind fun k => match k with
          | false => some none
          | true => (evE elt false ρ3).map fun r => some r.2) ds1) ds).bind fun ys => if lenOk ys.length then some (true, .list ys) else none) := Eq.trans rfl (Eq.refl _)
theorem q_evEs_1 : evEs (.nil) (u0) (u1) = (some []) := Eq.trans rfl (Eq.refl _)
theorem q_evEs_2 : evEs (.cons e es) (b) (ρ) = ((evE e b ρ).bind fun r => (evEs es b ρ).map fun ds => r.2 :: ds) := Eq.trans rfl (Eq.refl _)
theorem q_evP_1 : evP (.no) (u0) = (some none) := Eq.trans rfl (Eq.refl _)
theorem q_evP_2 : evP (.yes e) (ρ) = ((evE e true ρ).bind fun r => (asI r.2).bind fun i => (some (some i))) := by
  rw [evP]
  congr 1
  funext r
  obtain ⟨b, d⟩ := r
  cases d <;> rfl
theorem q_evC_1 : evC (.no) (u0) = (some true) := Eq.trans rfl (Eq.refl _)
theorem q_evC_2 : evC (.yes e) (ρ) = ((evE e true ρ).bind fun r => match r.2 with
      | .bool k => some k
      | _ => none) := Eq.trans rfl (Eq.refl _)
theorem q_evI_1 : evI (.rng es) (u0) (ρ) = ((evEs es true ρ).bind evRng) := Eq.trans rfl (Eq.refl _)
theorem q_evI_2 : evI (.seq e) (b) (ρ) = ((evE e b ρ).bind fun r => itemsOf r.2) := Eq.trans rfl (Eq.refl _)
theorem q_evRet_1 : evRet (.v i) (ρ) = (match ρ[i]? with
      | some (some r) => some r
      | _ => none) := Eq.trans rfl (Eq.refl _)
theorem q_evS_1 : evS n (.asg g e) (ρ) = ((evE e false ρ).bind fun r => (asgR g r ρ).map .nx) := Eq.trans rfl (Eq.refl _)
theorem q_evS_2 : evS n (.asgs i e) (ρ) = ((evE e false ρ).map fun r => .nx (ρ.set i (some (false, r.2)))) := Eq.trans rfl (Eq.refl _)
theorem q_evS_3 : evS n (.par i j a b) (ρ) = ((evE a false ρ).bind fun r => (evE b false ρ).map fun s => .nx ((ρ.set i (some r)).set j (some s))) := Eq.trans rfl (Eq.refl _)
theorem q_evS_4 : evS n (.par3 i j l a b d) (ρ) = ((evE a false ρ).bind fun r => (evE b false ρ).bind fun s => (evE d false ρ).map fun t => .nx (((ρ.set i (some r)).set j (some s)).set l (some t))) := Eq.trans rfl (Eq.refl _)
theorem q_evS_5 : evS n (.app i e) (ρ) = ((own ρ i).bind fun ds => (evE e false ρ).bind fun r => if lenOk (ds.length + 1) then some (.nx (ρ.set i (some (true, .list (ds ++ [r.2]))))) else none) := Eq.trans rfl (Eq.refl _)
theorem q_evS_6 : evS n (.ext i e) (ρ) = ((own ρ i).bind fun ds => (evE e false ρ).bind fun r => match r.2 with
      | .list es => if lenOk (ds.length + es.length) then some (.nx (ρ.set i (some (true, .list (ds ++ es))))) else none
      | .tuple es => if lenOk (ds.length + es.length) then some (.nx (ρ.set i (some (true, .list (ds ++ es))))) else none
      | _ => none) := Eq.trans rfl (Eq.refl _)
theorem q_evS_7 : evS n (.ins i a e) (ρ) = ((own ρ i).bind fun ds => (evE a true ρ).bind fun k => (evE e false ρ).bind fun r => (asI k.2).bind fun j => (if decide (0 ≤ j) && decide (j < 1000000000) && lenOk (ds.length + 1) then some (.nx (ρ.set i (some (true, .list (ds.take j.toNat ++ [r.2] ++ ds.drop j.toNat))))) else none)) := by
  rw [evS]
  congr 1
  funext ds
  congr 1
  funext k
  congr 1
  funext r
  obtain ⟨b, d⟩ := k
  cases d <;> rfl
theorem q_evS_8 : evS n (.put i a e) (ρ) = ((evE e false ρ).bind fun r => (own ρ i).bind fun ds => (evE a true ρ).bind fun k => (asI k.2).bind fun j => ((putD ds j r.2).map fun ds' => .nx (ρ.set i (some (true, .list ds'))))) := by
  rw [evS]
  congr 1
  funext r
  congr 1
  funext ds
  congr 1
  funext k
  obtain ⟨b, d⟩ := k
  cases d <;> rfl
theorem q_evS_9 : evS n (.pop g i) (ρ) = ((own ρ i).bind fun ds => match ds.getLast? with
      | none => none
      | some d => (asg g d (ρ.set i (some (true, .list ds.dropLast)))).map .nx) := Eq.trans rfl (Eq.refl _)
theorem q_evS_10 : evS n (.ret e) (ρ) = ((evRet e ρ).map .rt) := Eq.trans rfl (Eq.refl _)
theorem q_evS_11 : evS n (.retN) (u0) = (some (.rt (false, .none))) := Eq.trans rfl (Eq.refl _)
theorem q_evS_12 : evS n (.ite c a b) (ρ) = ((evT c ρ).bind fun k => match k with
      | true => evSs n a ρ
      | false => evSs n b ρ) := Eq.trans rfl (Eq.refl _)
theorem q_evS_13 : evS n (.for_ g it b) (ρ) = ((evI it false ρ).bind fun ds => forGo g (blk n b) ds ρ) := Eq.trans rfl (Eq.refl _)
theorem q_evS_14 : evS n (.while_ c b) (ρ) = (whileGo (tst c) (blk n b) n ρ) := Eq.trans rfl (Eq.refl _)
theorem q_evS_15 : evS n (.share i) (ρ) = (match ρ[i]? with
      | some (some (true, d)) => some (.nx (ρ.set i (some (false, d))))
      | _ => some (.nx ρ)) := Eq.trans rfl (Eq.refl _)
theorem q_evS_16 : evS n (.never) (u0) = (none) := Eq.trans rfl (Eq.refl _)
theorem q_evSs_1 : evSs n (.nil) (ρ) = (some (.nx ρ)) := Eq.trans rfl (Eq.refl _)
theorem q_evSs_2 : evSs n (.cons s ss) (ρ) = (match evS n s ρ with
      | some (.nx ρ2) => evSs n ss ρ2
      | o => o) := Eq.trans rfl (Eq.refl _)
theorem q_oa_0 : ownedArg ρ (.c d) = false := Eq.trans rfl (Eq.refl _)
theorem q_rt_0 : evRet (.c d) ρ = evE (.c d) false ρ := Eq.trans rfl (Eq.refl _)
theorem q_oa_1 : ownedArg ρ (.bin o x y) = false := Eq.trans rfl (Eq.refl _)
theorem q_rt_1 : evRet (.bin o x y) ρ = evE (.bin o x y) false ρ := Eq.trans rfl (Eq.refl _)
theorem q_oa_2 : ownedArg ρ (.neg x) = false := Eq.trans rfl (Eq.refl _)
theorem q_rt_2 : evRet (.neg x) ρ = evE (.neg x) false ρ := Eq.trans rfl (Eq.refl _)
theorem q_oa_3 : ownedArg ρ (.cmp o x y) = false := Eq.trans rfl (Eq.refl _)
theorem q_rt_3 : evRet (.cmp o x y) ρ = evE (.cmp o x y) false ρ := Eq.trans rfl (Eq.refl _)
theorem q_oa_4 : ownedArg ρ (.chain o p x y z) = false := Eq.trans rfl (Eq.refl _)
theorem q_rt_4 : evRet (.chain o p x y z) ρ = evE (.chain o p x y z) false ρ := Eq.trans rfl (Eq.refl _)
theorem q_oa_5 : ownedArg ρ (.and x y) = false := Eq.trans rfl (Eq.refl _)
theorem q_rt_5 : evRet (.and x y) ρ = evE (.and x y) false ρ := Eq.trans rfl (Eq.refl _)
theorem q_oa_6 : ownedArg ρ (.or x y) = false := Eq.trans rfl (Eq.refl _)
theorem q_rt_6 : evRet (.or x y) ρ = evE (.or x y) false ρ := Eq.trans rfl (Eq.refl _)
theorem q_oa_7 : ownedArg ρ (.not x) = false := Eq.trans rfl (Eq.refl _)
theorem q_rt_7 : evRet (.not x) ρ = evE (.not x) false ρ := Eq.trans rfl (Eq.refl _)
theorem q_oa_8 : ownedArg ρ (.ite x y z) = false := Eq.trans rfl (Eq.refl _)
theorem q_rt_8 : evRet (.ite x y z) ρ = evE (.ite x y z) false ρ := Eq.trans rfl (Eq.refl _)
theorem q_oa_9 : ownedArg ρ (.tup es) = false := Eq.trans rfl (Eq.refl _)
theorem q_rt_9 : evRet (.tup es) ρ = evE (.tup es) false ρ := Eq.trans rfl (Eq.refl _)
theorem q_oa_10 : ownedArg ρ (.lst es) = false := Eq.trans rfl (Eq.refl _)
theorem q_rt_10 : evRet (.lst es) ρ = evE (.lst es) false ρ := Eq.trans rfl (Eq.refl _)
theorem q_oa_11 : ownedArg ρ (.ix x y) = false := Eq.trans rfl (Eq.refl _)
theorem q_rt_11 : evRet (.ix x y) ρ = evE (.ix x y) false ρ := Eq.trans rfl (Eq.refl _)
theorem q_oa_12 : ownedArg ρ (.sl x l h) = false := Eq.trans rfl (Eq.refl _)
theorem q_rt_12 : evRet (.sl x l h) ρ = evE (.sl x l h) false ρ := Eq.trans rfl (Eq.refl _)
theorem q_oa_13 : ownedArg ρ (.rev x) = false := Eq.trans rfl (Eq.refl _)
theorem q_rt_13 : evRet (.rev x) ρ = evE (.rev x) false ρ := Eq.trans rfl (Eq.refl _)
theorem q_oa_14 : ownedArg ρ (.rngl es) = false := Eq.trans rfl (Eq.refl _)
theorem q_rt_14 : evRet (.rngl es) ρ = evE (.rngl es) false ρ := Eq.trans rfl (Eq.refl _)
theorem q_oa_15 : ownedArg ρ (.call f es) = false := Eq.trans rfl (Eq.refl _)
theorem q_rt_15 : evRet (.call f es) ρ = evE (.call f es) false ρ := Eq.trans rfl (Eq.refl _)
theorem q_oa_16 : ownedArg ρ (.bi b es) = false := Eq.trans rfl (Eq.refl _)
theorem q_rt_16 : evRet (.bi b es) ρ = evE (.bi b es) false ρ := Eq.trans rfl (Eq.refl _)
theorem q_oa_17 : ownedArg ρ (.comp ow g it c x) = false := Eq.trans rfl (Eq.refl _)
theorem q_rt_17 : evRet (.comp ow g it c x) ρ = evE (.comp ow g it c x) false ρ := Eq.trans rfl (Eq.refl _)
theorem q_oa_18 : ownedArg ρ (.comp2 ow g it c ow1 g1 it1 c1 x) = false := Eq.trans rfl (Eq.refl _)
theorem q_rt_18 : evRet (.comp2 ow g it c ow1 g1 it1 c1 x) ρ = evE (.comp2 ow g it c ow1 g1 it1 c1 x) false ρ := Eq.trans rfl (Eq.refl _)
theorem q_ar_0 : asgR (.two a b) r ρ = asg (.two a b) r.2 ρ := Eq.trans rfl (Eq.refl _)
theorem q_ar_1 : asgR (.thr a b c) r ρ = asg (.thr a b c) r.2 ρ := Eq.trans rfl (Eq.refl _)
theorem q_ar_2 : asgR (.fou a b c d) r ρ = asg (.fou a b c d) r.2 ρ := Eq.trans rfl (Eq.refl _)
end PV

set_option Elab.async false
set_option linter.all false
set_option maxRecDepth 100000
set_option maxHeartbeats 4000000
/-! PVD: the draws that every law begins with. -/
namespace PV
open PySem L2
def ib_draws_1 : Ss :=
  (.cons (.ite (.cmp .gt (.v 4) (.c (.int 0))) (.cons (.app 2 (.bin .mod (.v 4) (.c (.int 1000003))))
  (.cons (.asgs 4 (.bin .fdiv (.v 4) (.c (.int 1000003))))
  .nil)) .nil)
  .nil)
def ib_draws_2 : Ss :=
  (.cons (.asgs 6 (.bin .mod (.bin .add (.bin .add (.bin .add (.bin .mul (.v 6) (.c (.int 69621))) (.bin .fdiv (.v 6) (.c (.int 65536)))) (.bin .mul (.c (.int 13)) (.v 5))) (.c (.int 5))) (.c (.int 2147483629))))
  (.cons (.app 2 (.bin .mod (.bin .fdiv (.v 6) (.c (.int 8))) (.c (.int 1000003))))
  .nil))
def ib_draws_3 : Ss :=
  (.cons (.asgs 4 (.bi .abs (.cons (.bi .int (.cons (.v 3) .nil)) .nil)))
  (.cons (.ite (.cmp .ge (.v 4) (.bin .pow (.c (.int 10)) (.c (.int 18)))) (.cons (.for_ (.nm 5) (.rng (.cons (.c (.int 60)) .nil)) ib_draws_1)
  .nil) (.cons (.asgs 6 (.bin .mod (.bin .add (.bin .add (.bin .mul (.v 4) (.c (.int 48271))) (.bin .mul (.c (.int 7)) (.bi .len (.cons (.v 2) .nil)))) (.c (.int 11))) (.c (.int 2147483647))))
  (.cons (.for_ (.nm 5) (.rng (.cons (.c (.int 4)) .nil)) ib_draws_2)
  .nil)))
  .nil))
def ib_draws_4 : Ss :=
  (.cons (.ite (.cmp .lt (.bi .len (.cons (.v 2) .nil)) (.v 1)) (.cons (.asgs 7 (.c (.int 0)))
  (.cons (.ite (.cmp .gt (.bi .len (.cons (.v 2) .nil)) (.c (.int 0))) (.cons (.asgs 7 (.ix (.v 2) (.bin .mod (.v 5) (.bi .len (.cons (.v 2) .nil)))))
  .nil) .nil)
  (.cons (.app 2 (.bin .mod (.bin .add (.bin .add (.bin .mul (.v 7) (.c (.int 16807))) (.bin .mul (.c (.int 31)) (.bi .len (.cons (.v 2) .nil)))) (.c (.int 17))) (.c (.int 1000003))))
  .nil))) .nil)
  .nil)
def ir_draws : Ss :=
  (.cons (.asg (.nm 2) (.lst .nil))
  (.cons (.for_ (.nm 3) (.seq (.sl (.v 0) .no (.yes (.c (.int 63))))) ib_draws_3)
  (.cons (.for_ (.nm 5) (.rng (.cons (.v 1) .nil)) ib_draws_4)
  (.cons (.ret (.sl (.v 2) .no (.yes (.v 1))))
  .nil))))
def f_draws : Fn := evDef FUEL 2 8 ir_draws
theorem d_18 : PyData.int 18 = N 18 := Eq.trans rfl (Eq.refl _)
theorem d_60 : PyData.int 60 = N 60 := Eq.trans rfl (Eq.refl _)
theorem d_1000003 : PyData.int 1000003 = N 1000003 := Eq.trans rfl (Eq.refl _)
theorem d_48271 : PyData.int 48271 = N 48271 := Eq.trans rfl (Eq.refl _)
theorem d_2147483647 : PyData.int 2147483647 = N 2147483647 := Eq.trans rfl (Eq.refl _)
theorem d_69621 : PyData.int 69621 = N 69621 := Eq.trans rfl (Eq.refl _)
theorem d_65536 : PyData.int 65536 = N 65536 := Eq.trans rfl (Eq.refl _)
theorem d_2147483629 : PyData.int 2147483629 = N 2147483629 := Eq.trans rfl (Eq.refl _)
theorem d_16807 : PyData.int 16807 = N 16807 := Eq.trans rfl (Eq.refl _)
theorem d_31 : PyData.int 31 = N 31 := Eq.trans rfl (Eq.refl _)
theorem d_17 : PyData.int 17 = N 17 := Eq.trans rfl (Eq.refl _)
theorem d_63 : PyData.int 63 = N 63 := Eq.trans rfl (Eq.refl _)

theorem n_pow {a b : Nat} (ha : a < 2 ^ 64) (hb : b ≤ 1000000) : evBin .pow (N a) (N b) = some (false, N (a ^ b)) := by
  have hm : powOk (a : Int) (b : Int) = true := by
    unfold powOk
    simp only [Int.natAbs_natCast, Nat.blt_eq, Bool.and_eq_true, decide_eq_true_eq]
    omega
  show (if powOk (a : Int) (b : Int) then some (false, PyData.int ((a : Int) ^ (b : Int).toNat)) else none) = some (false, PyData.int ((a ^ b : Nat) : Int))
  rw [if_pos hm, Int.toNat_natCast, Int.natCast_pow]
theorem n_abs (z : Int) : evBI .abs [.int z] = some (false, N z.natAbs) := by
  show some (false, PyData.int (if z < 0 then -z else z)) = some (false, PyData.int ((z.natAbs : Nat) : Int))
  congr 3
  split <;> omega
theorem n_int (z : Int) : evBI .int [.int z] = some (false, .int z) := Eq.trans rfl (Eq.refl _)
theorem cut_take (xs : List PyData) (k : Nat) : cutD xs none (some (k : Int)) = xs.take k := by
  unfold cutD
  rw [HT.sIx_none, HT.sIx_nat, List.drop_zero, Nat.sub_zero]
  rcases Nat.le_total k xs.length with h | h
  · rw [Nat.min_eq_left h]
  · rw [Nat.min_eq_right h, List.take_length, List.take_of_length_le h]
theorem n_slh (xs : List PyData) (k : Nat) : evSl (.list xs) none (some (k : Int)) = some (true, .list (xs.take k)) := by
  show some (true, PyData.list (cutD xs none (some (k : Int)))) = _
  rw [cut_take]
/-- all below -/
def Dr (l : List Nat) : Prop := ∀ x ∈ l, x < 1000003
theorem Dr.snoc {l : List Nat} {x : Nat} (h : Dr l) (hx : x < 1000003) : Dr (l ++ [x]) := fun y hy => by
  rcases List.mem_append.mp hy with hy | hy
  · exact h y hy
  · rw [List.mem_singleton.mp hy]; exact hx
abbrev sL (l : List Nat) : Option R := some (true, .list (l.map N))
theorem dr_1 {s0 s1 s3 s5 s6 s7 : Option R} {l : List Nat} {num : Nat} (hl : l.length ≤ 1000000) : ∃ l' num', blk FUEL ib_draws_1 [s0, s1, sL l, s3, sN num, s5, s6, s7] = some (.nx [s0, s1, sL l', s3, sN num', s5, s6, s7]) ∧ (Dr l → Dr l') ∧ l'.length ≤ l.length + 1 := by
  unfold blk ib_draws_1
  by_cases h : 0 < num
  · refine ⟨l ++ [num % 1000003], num / 1000003, ?_, fun h => h.snoc (Nat.mod_lt _ (by decide)), by simp⟩
    simp only [q_wipeR_1, q_wipeR_2, q_asg_1, q_asg_2, q_asg_3, q_asg_4, q_asgR_1, q_ownedArg_1, q_ownedArgs_1, q_ownedArgs_2, q_itemsOf_1, q_itemsOf_2, q_evE_1, q_evE_2, q_evE_3, q_evE_4, q_evE_5, q_evE_6, q_evE_7, q_evE_8, q_evE_9, q_evE_10, q_evE_11, q_evE_12, q_evE_13, q_evE_14, q_evE_15, q_evE_16, q_evE_17, q_evE_18, q_evE_19, q_evEs_1, q_evEs_2, q_evP_1, q_evP_2, q_evC_1, q_evC_2, q_evI_1, q_evI_2, q_evRet_1, q_evS_1, q_evS_2, q_evS_3, q_evS_4, q_evS_5, q_evS_6, q_evS_7, q_evS_8, q_evS_9, q_evS_10, q_evS_11, q_evS_12, q_evS_13, q_evS_14, q_evS_15, q_evS_16, q_evSs_1, q_evSs_2, q_oa_0, q_rt_0, q_oa_1, q_rt_1, q_oa_2, q_rt_2, q_oa_3, q_rt_3, q_oa_4, q_rt_4, q_oa_5, q_rt_5, q_oa_6, q_rt_6, q_oa_7, q_rt_7, q_oa_8, q_rt_8, q_oa_9, q_rt_9, q_oa_10, q_rt_10, q_oa_11, q_rt_11, q_oa_12, q_rt_12, q_oa_13, q_rt_13, q_oa_14, q_rt_14, q_oa_15, q_rt_15, q_oa_16, q_rt_16, q_oa_17, q_rt_17, q_ar_0, q_ar_1, q_ar_2, asI_N, asI_i, q_l2, q_l3, q_l4, q_l5, q_l6, q_l7, q_l8, q_l9, q_l10, q_l11, q_l12, q_l13, q_ret, q_bind, q_bindn, q_map, q_mapn, q_one, q_zero, q_evT, q_own, evNeg, startR, List.getElem?_cons_succ, List.getElem?_cons_zero, List.set_cons_succ, List.set_cons_zero, List.map_cons, List.map_nil, List.replicate, List.length_cons, List.length_nil, List.append_eq, List.nil_append, List.cons_append, Bool.and_true, Bool.true_and, Bool.and_false, Bool.false_and, Bool.not_true, Bool.not_false, if_true, if_false, reduceCtorEq, Nat.reduceSub, Nat.reduceAdd, Nat.reduceLeDiff, Bool.false_eq_true, Bool.or_false, Bool.false_or, ite_true, ite_false, n_add, lenOk_0, lenOk_1, lenOk_2, lenOk_3, lenOk_4, lenOk_5, lenOk_6, lenOk_7, lenOk_8, d_18, d_60, d_1000003, d_48271, d_2147483647, d_69621, d_65536, d_2147483629, d_16807, d_31, d_17, d_63, n_gt, h, decide_true, n_mod (show 0 < 1000003 by decide)]
    rw [if_pos (lenOk_of (by rw [List.length_map]; omega))]
    simp only [q_wipeR_1, q_wipeR_2, q_asg_1, q_asg_2, q_asg_3, q_asg_4, q_asgR_1, q_ownedArg_1, q_ownedArgs_1, q_ownedArgs_2, q_itemsOf_1, q_itemsOf_2, q_evE_1, q_evE_2, q_evE_3, q_evE_4, q_evE_5, q_evE_6, q_evE_7, q_evE_8, q_evE_9, q_evE_10, q_evE_11, q_evE_12, q_evE_13, q_evE_14, q_evE_15, q_evE_16, q_evE_17, q_evE_18, q_evE_19, q_evEs_1, q_evEs_2, q_evP_1, q_evP_2, q_evC_1, q_evC_2, q_evI_1, q_evI_2, q_evRet_1, q_evS_1, q_evS_2, q_evS_3, q_evS_4, q_evS_5, q_evS_6, q_evS_7, q_evS_8, q_evS_9, q_evS_10, q_evS_11, q_evS_12, q_evS_13, q_evS_14, q_evS_15, q_evS_16, q_evSs_1, q_evSs_2, q_oa_0, q_rt_0, q_oa_1, q_rt_1, q_oa_2, q_rt_2, q_oa_3, q_rt_3, q_oa_4, q_rt_4, q_oa_5, q_rt_5, q_oa_6, q_rt_6, q_oa_7, q_rt_7, q_oa_8, q_rt_8, q_oa_9, q_rt_9, q_oa_10, q_rt_10, q_oa_11, q_rt_11, q_oa_12, q_rt_12, q_oa_13, q_rt_13, q_oa_14, q_rt_14, q_oa_15, q_rt_15, q_oa_16, q_rt_16, q_oa_17, q_rt_17, q_ar_0, q_ar_1, q_ar_2, asI_N, asI_i, q_l2, q_l3, q_l4, q_l5, q_l6, q_l7, q_l8, q_l9, q_l10, q_l11, q_l12, q_l13, q_ret, q_bind, q_bindn, q_map, q_mapn, q_one, q_zero, q_evT, q_own, evNeg, startR, List.getElem?_cons_succ, List.getElem?_cons_zero, List.set_cons_succ, List.set_cons_zero, List.map_cons, List.map_nil, List.replicate, List.length_cons, List.length_nil, List.append_eq, List.nil_append, List.cons_append, Bool.and_true, Bool.true_and, Bool.and_false, Bool.false_and, Bool.not_true, Bool.not_false, if_true, if_false, reduceCtorEq, Nat.reduceSub, Nat.reduceAdd, Nat.reduceLeDiff, Bool.false_eq_true, Bool.or_false, Bool.false_or, ite_true, ite_false, n_add, lenOk_0, lenOk_1, lenOk_2, lenOk_3, lenOk_4, lenOk_5, lenOk_6, lenOk_7, lenOk_8, d_18, d_60, d_1000003, d_48271, d_2147483647, d_69621, d_65536, d_2147483629, d_16807, d_31, d_17, d_63, n_div (show 0 < 1000003 by decide) (show 1000003 < 2 ^ 64 by decide), List.map_append, sL]
  · refine ⟨l, num, ?_, fun h => h, by omega⟩
    simp only [q_wipeR_1, q_wipeR_2, q_asg_1, q_asg_2, q_asg_3, q_asg_4, q_asgR_1, q_ownedArg_1, q_ownedArgs_1, q_ownedArgs_2, q_itemsOf_1, q_itemsOf_2, q_evE_1, q_evE_2, q_evE_3, q_evE_4, q_evE_5, q_evE_6, q_evE_7, q_evE_8, q_evE_9, q_evE_10, q_evE_11, q_evE_12, q_evE_13, q_evE_14, q_evE_15, q_evE_16, q_evE_17, q_evE_18, q_evE_19, q_evEs_1, q_evEs_2, q_evP_1, q_evP_2, q_evC_1, q_evC_2, q_evI_1, q_evI_2, q_evRet_1, q_evS_1, q_evS_2, q_evS_3, q_evS_4, q_evS_5, q_evS_6, q_evS_7, q_evS_8, q_evS_9, q_evS_10, q_evS_11, q_evS_12, q_evS_13, q_evS_14, q_evS_15, q_evS_16, q_evSs_1, q_evSs_2, q_oa_0, q_rt_0, q_oa_1, q_rt_1, q_oa_2, q_rt_2, q_oa_3, q_rt_3, q_oa_4, q_rt_4, q_oa_5, q_rt_5, q_oa_6, q_rt_6, q_oa_7, q_rt_7, q_oa_8, q_rt_8, q_oa_9, q_rt_9, q_oa_10, q_rt_10, q_oa_11, q_rt_11, q_oa_12, q_rt_12, q_oa_13, q_rt_13, q_oa_14, q_rt_14, q_oa_15, q_rt_15, q_oa_16, q_rt_16, q_oa_17, q_rt_17, q_ar_0, q_ar_1, q_ar_2, asI_N, asI_i, q_l2, q_l3, q_l4, q_l5, q_l6, q_l7, q_l8, q_l9, q_l10, q_l11, q_l12, q_l13, q_ret, q_bind, q_bindn, q_map, q_mapn, q_one, q_zero, q_evT, q_own, evNeg, startR, List.getElem?_cons_succ, List.getElem?_cons_zero, List.set_cons_succ, List.set_cons_zero, List.map_cons, List.map_nil, List.replicate, List.length_cons, List.length_nil, List.append_eq, List.nil_append, List.cons_append, Bool.and_true, Bool.true_and, Bool.and_false, Bool.false_and, Bool.not_true, Bool.not_false, if_true, if_false, reduceCtorEq, Nat.reduceSub, Nat.reduceAdd, Nat.reduceLeDiff, Bool.false_eq_true, Bool.or_false, Bool.false_or, ite_true, ite_false, n_add, lenOk_0, lenOk_1, lenOk_2, lenOk_3, lenOk_4, lenOk_5, lenOk_6, lenOk_7, lenOk_8, d_18, d_60, d_1000003, d_48271, d_2147483647, d_69621, d_65536, d_2147483629, d_16807, d_31, d_17, d_63, n_gt, h, decide_false]
theorem dr_2 {s0 s1 s3 s4 s7 : Option R} {l : List Nat} {mixed k : Nat} (hl : l.length ≤ 1000000) (hk : k < 1000) (hm : mixed < 2 ^ 40) : ∃ l' mixed', blk FUEL ib_draws_2 [s0, s1, sL l, s3, s4, sN k, sN mixed, s7] = some (.nx [s0, s1, sL l', s3, s4, sN k, sN mixed', s7]) ∧ (Dr l → Dr l') ∧ l'.length ≤ l.length + 1 ∧ mixed' < 2 ^ 40 := by
  unfold blk ib_draws_2
  have hmm := Nat.mod_lt (mixed * 69621 + mixed / 65536 + 13 * k + 5) (show 0 < 2147483629 by decide)
  generalize hq : (mixed * 69621 + mixed / 65536 + 13 * k + 5) % 2147483629 = q at hmm
  refine ⟨l ++ [q / 8 % 1000003], q, ?_, fun h => h.snoc (Nat.mod_lt _ (by decide)), by simp, by omega⟩
  simp only [q_wipeR_1, q_wipeR_2, q_asg_1, q_asg_2, q_asg_3, q_asg_4, q_asgR_1, q_ownedArg_1, q_ownedArgs_1, q_ownedArgs_2, q_itemsOf_1, q_itemsOf_2, q_evE_1, q_evE_2, q_evE_3, q_evE_4, q_evE_5, q_evE_6, q_evE_7, q_evE_8, q_evE_9, q_evE_10, q_evE_11, q_evE_12, q_evE_13, q_evE_14, q_evE_15, q_evE_16, q_evE_17, q_evE_18, q_evE_19, q_evEs_1, q_evEs_2, q_evP_1, q_evP_2, q_evC_1, q_evC_2, q_evI_1, q_evI_2, q_evRet_1, q_evS_1, q_evS_2, q_evS_3, q_evS_4, q_evS_5, q_evS_6, q_evS_7, q_evS_8, q_evS_9, q_evS_10, q_evS_11, q_evS_12, q_evS_13, q_evS_14, q_evS_15, q_evS_16, q_evSs_1, q_evSs_2, q_oa_0, q_rt_0, q_oa_1, q_rt_1, q_oa_2, q_rt_2, q_oa_3, q_rt_3, q_oa_4, q_rt_4, q_oa_5, q_rt_5, q_oa_6, q_rt_6, q_oa_7, q_rt_7, q_oa_8, q_rt_8, q_oa_9, q_rt_9, q_oa_10, q_rt_10, q_oa_11, q_rt_11, q_oa_12, q_rt_12, q_oa_13, q_rt_13, q_oa_14, q_rt_14, q_oa_15, q_rt_15, q_oa_16, q_rt_16, q_oa_17, q_rt_17, q_ar_0, q_ar_1, q_ar_2, asI_N, asI_i, q_l2, q_l3, q_l4, q_l5, q_l6, q_l7, q_l8, q_l9, q_l10, q_l11, q_l12, q_l13, q_ret, q_bind, q_bindn, q_map, q_mapn, q_one, q_zero, q_evT, q_own, evNeg, startR, List.getElem?_cons_succ, List.getElem?_cons_zero, List.set_cons_succ, List.set_cons_zero, List.map_cons, List.map_nil, List.replicate, List.length_cons, List.length_nil, List.append_eq, List.nil_append, List.cons_append, Bool.and_true, Bool.true_and, Bool.and_false, Bool.false_and, Bool.not_true, Bool.not_false, if_true, if_false, reduceCtorEq, Nat.reduceSub, Nat.reduceAdd, Nat.reduceLeDiff, Bool.false_eq_true, Bool.or_false, Bool.false_or, ite_true, ite_false, n_add, lenOk_0, lenOk_1, lenOk_2, lenOk_3, lenOk_4, lenOk_5, lenOk_6, lenOk_7, lenOk_8, d_18, d_60, d_1000003, d_48271, d_2147483647, d_69621, d_65536, d_2147483629, d_16807, d_31, d_17, d_63, n_mul (show mixed < 2 ^ 64 by omega) (show 69621 < 2 ^ 64 by decide), n_div (show 0 < 65536 by decide) (show 65536 < 2 ^ 64 by decide), n_mul (show 13 < 2 ^ 64 by decide) (show k < 2 ^ 64 by omega), n_mod (show 0 < 2147483629 by decide), hq, n_div (show 0 < 8 by decide) (show 8 < 2 ^ 64 by decide), n_mod (show 0 < 1000003 by decide)]
  rw [if_pos (lenOk_of (by rw [List.length_map]; omega))]
  simp only [q_wipeR_1, q_wipeR_2, q_asg_1, q_asg_2, q_asg_3, q_asg_4, q_asgR_1, q_ownedArg_1, q_ownedArgs_1, q_ownedArgs_2, q_itemsOf_1, q_itemsOf_2, q_evE_1, q_evE_2, q_evE_3, q_evE_4, q_evE_5, q_evE_6, q_evE_7, q_evE_8, q_evE_9, q_evE_10, q_evE_11, q_evE_12, q_evE_13, q_evE_14, q_evE_15, q_evE_16, q_evE_17, q_evE_18, q_evE_19, q_evEs_1, q_evEs_2, q_evP_1, q_evP_2, q_evC_1, q_evC_2, q_evI_1, q_evI_2, q_evRet_1, q_evS_1, q_evS_2, q_evS_3, q_evS_4, q_evS_5, q_evS_6, q_evS_7, q_evS_8, q_evS_9, q_evS_10, q_evS_11, q_evS_12, q_evS_13, q_evS_14, q_evS_15, q_evS_16, q_evSs_1, q_evSs_2, q_oa_0, q_rt_0, q_oa_1, q_rt_1, q_oa_2, q_rt_2, q_oa_3, q_rt_3, q_oa_4, q_rt_4, q_oa_5, q_rt_5, q_oa_6, q_rt_6, q_oa_7, q_rt_7, q_oa_8, q_rt_8, q_oa_9, q_rt_9, q_oa_10, q_rt_10, q_oa_11, q_rt_11, q_oa_12, q_rt_12, q_oa_13, q_rt_13, q_oa_14, q_rt_14, q_oa_15, q_rt_15, q_oa_16, q_rt_16, q_oa_17, q_rt_17, q_ar_0, q_ar_1, q_ar_2, asI_N, asI_i, q_l2, q_l3, q_l4, q_l5, q_l6, q_l7, q_l8, q_l9, q_l10, q_l11, q_l12, q_l13, q_ret, q_bind, q_bindn, q_map, q_mapn, q_one, q_zero, q_evT, q_own, evNeg, startR, List.getElem?_cons_succ, List.getElem?_cons_zero, List.set_cons_succ, List.set_cons_zero, List.map_cons, List.map_nil, List.replicate, List.length_cons, List.length_nil, List.append_eq, List.nil_append, List.cons_append, Bool.and_true, Bool.true_and, Bool.and_false, Bool.false_and, Bool.not_true, Bool.not_false, if_true, if_false, reduceCtorEq, Nat.reduceSub, Nat.reduceAdd, Nat.reduceLeDiff, Bool.false_eq_true, Bool.or_false, Bool.false_or, ite_true, ite_false, n_add, lenOk_0, lenOk_1, lenOk_2, lenOk_3, lenOk_4, lenOk_5, lenOk_6, lenOk_7, lenOk_8, List.map_append, sL]
theorem dr_3 {s0 s1 j4 j5 j6 s7 : Option R} {l : List Nat} {z : Int} (hl : l.length ≤ 100000) : ∃ l' k4 k5 k6, blk FUEL ib_draws_3 [s0, s1, sL l, some (false, .int z), j4, j5, j6, s7] = some (.nx [s0, s1, sL l', some (false, .int z), k4, k5, k6, s7]) ∧ (Dr l → Dr l') ∧ l'.length ≤ l.length + 60 := by
  unfold blk ib_draws_3
  simp only [q_wipeR_1, q_wipeR_2, q_asg_1, q_asg_2, q_asg_3, q_asg_4, q_asgR_1, q_ownedArg_1, q_ownedArgs_1, q_ownedArgs_2, q_itemsOf_1, q_itemsOf_2, q_evE_1, q_evE_2, q_evE_3, q_evE_4, q_evE_5, q_evE_6, q_evE_7, q_evE_8, q_evE_9, q_evE_10, q_evE_11, q_evE_12, q_evE_13, q_evE_14, q_evE_15, q_evE_16, q_evE_17, q_evE_18, q_evE_19, q_evEs_1, q_evEs_2, q_evP_1, q_evP_2, q_evC_1, q_evC_2, q_evI_1, q_evI_2, q_evRet_1, q_evS_1, q_evS_2, q_evS_3, q_evS_4, q_evS_5, q_evS_6, q_evS_7, q_evS_8, q_evS_9, q_evS_10, q_evS_11, q_evS_12, q_evS_13, q_evS_14, q_evS_15, q_evS_16, q_evSs_1, q_evSs_2, q_oa_0, q_rt_0, q_oa_1, q_rt_1, q_oa_2, q_rt_2, q_oa_3, q_rt_3, q_oa_4, q_rt_4, q_oa_5, q_rt_5, q_oa_6, q_rt_6, q_oa_7, q_rt_7, q_oa_8, q_rt_8, q_oa_9, q_rt_9, q_oa_10, q_rt_10, q_oa_11, q_rt_11, q_oa_12, q_rt_12, q_oa_13, q_rt_13, q_oa_14, q_rt_14, q_oa_15, q_rt_15, q_oa_16, q_rt_16, q_oa_17, q_rt_17, q_ar_0, q_ar_1, q_ar_2, asI_N, asI_i, q_l2, q_l3, q_l4, q_l5, q_l6, q_l7, q_l8, q_l9, q_l10, q_l11, q_l12, q_l13, q_ret, q_bind, q_bindn, q_map, q_mapn, q_one, q_zero, q_evT, q_own, evNeg, startR, List.getElem?_cons_succ, List.getElem?_cons_zero, List.set_cons_succ, List.set_cons_zero, List.map_cons, List.map_nil, List.replicate, List.length_cons, List.length_nil, List.append_eq, List.nil_append, List.cons_append, Bool.and_true, Bool.true_and, Bool.and_false, Bool.false_and, Bool.not_true, Bool.not_false, if_true, if_false, reduceCtorEq, Nat.reduceSub, Nat.reduceAdd, Nat.reduceLeDiff, Bool.false_eq_true, Bool.or_false, Bool.false_or, ite_true, ite_false, n_add, lenOk_0, lenOk_1, lenOk_2, lenOk_3, lenOk_4, lenOk_5, lenOk_6, lenOk_7, lenOk_8, d_18, d_60, d_1000003, d_48271, d_2147483647, d_69621, d_65536, d_2147483629, d_16807, d_31, d_17, d_63, n_int, n_abs, n_pow (show 10 < 2 ^ 64 by decide) (show 18 ≤ 1000000 by decide), n_ge]
  by_cases h : 10 ^ 18 ≤ z.natAbs
  · simp only [q_wipeR_1, q_wipeR_2, q_asg_1, q_asg_2, q_asg_3, q_asg_4, q_asgR_1, q_ownedArg_1, q_ownedArgs_1, q_ownedArgs_2, q_itemsOf_1, q_itemsOf_2, q_evE_1, q_evE_2, q_evE_3, q_evE_4, q_evE_5, q_evE_6, q_evE_7, q_evE_8, q_evE_9, q_evE_10, q_evE_11, q_evE_12, q_evE_13, q_evE_14, q_evE_15, q_evE_16, q_evE_17, q_evE_18, q_evE_19, q_evEs_1, q_evEs_2, q_evP_1, q_evP_2, q_evC_1, q_evC_2, q_evI_1, q_evI_2, q_evRet_1, q_evS_1, q_evS_2, q_evS_3, q_evS_4, q_evS_5, q_evS_6, q_evS_7, q_evS_8, q_evS_9, q_evS_10, q_evS_11, q_evS_12, q_evS_13, q_evS_14, q_evS_15, q_evS_16, q_evSs_1, q_evSs_2, q_oa_0, q_rt_0, q_oa_1, q_rt_1, q_oa_2, q_rt_2, q_oa_3, q_rt_3, q_oa_4, q_rt_4, q_oa_5, q_rt_5, q_oa_6, q_rt_6, q_oa_7, q_rt_7, q_oa_8, q_rt_8, q_oa_9, q_rt_9, q_oa_10, q_rt_10, q_oa_11, q_rt_11, q_oa_12, q_rt_12, q_oa_13, q_rt_13, q_oa_14, q_rt_14, q_oa_15, q_rt_15, q_oa_16, q_rt_16, q_oa_17, q_rt_17, q_ar_0, q_ar_1, q_ar_2, asI_N, asI_i, q_l2, q_l3, q_l4, q_l5, q_l6, q_l7, q_l8, q_l9, q_l10, q_l11, q_l12, q_l13, q_ret, q_bind, q_bindn, q_map, q_mapn, q_one, q_zero, q_evT, q_own, evNeg, startR, List.getElem?_cons_succ, List.getElem?_cons_zero, List.set_cons_succ, List.set_cons_zero, List.map_cons, List.map_nil, List.replicate, List.length_cons, List.length_nil, List.append_eq, List.nil_append, List.cons_append, Bool.and_true, Bool.true_and, Bool.and_false, Bool.false_and, Bool.not_true, Bool.not_false, if_true, if_false, reduceCtorEq, Nat.reduceSub, Nat.reduceAdd, Nat.reduceLeDiff, Bool.false_eq_true, Bool.or_false, Bool.false_or, ite_true, ite_false, n_add, lenOk_0, lenOk_1, lenOk_2, lenOk_3, lenOk_4, lenOk_5, lenOk_6, lenOk_7, lenOk_8, d_18, d_60, d_1000003, d_48271, d_2147483647, d_69621, d_65536, d_2147483629, d_16807, d_31, d_17, d_63, h, decide_true, n_rng1 (show 60 ≤ 1000000 by decide)]
    obtain ⟨ρ', e, l', num', k5, rfl, hd, hn⟩ := forGo_do (g := .nm 5) (f := blk FUEL ib_draws_1) N (fun pre ρ => ∃ l' num' k5, ρ = [s0, s1, sL l', some (false, .int z), sN num', k5, j6, s7] ∧ (Dr l → Dr l') ∧ l'.length ≤ l.length + pre.length) (l := List.range 60) (ρ := [s0, s1, sL l, some (false, .int z), sN z.natAbs, j5, j6, s7]) ⟨l, z.natAbs, j5, rfl, fun h => h, by simp⟩ (by
      rintro pre x suf ρ hs ⟨l1, n1, k1, rfl, hd, hn⟩
      have hp : pre.length ≤ 60 := by
        have := congrArg List.length hs
        rw [List.length_range, List.length_append] at this
        omega
      obtain ⟨l2, n2, e, hd2, hn2⟩ := dr_1 (s0 := s0) (s1 := s1) (s3 := some (false, .int z)) (s5 := sN x) (s6 := j6) (s7 := s7) (l := l1) (num := n1) (by omega)
      exact ⟨_, _, rfl, e, l2, n2, sN x, rfl, fun h => hd2 (hd h), by rw [List.length_append]; simp only [List.length_cons, List.length_nil]; omega⟩)
    rw [e]
    exact ⟨l', sN num', k5, j6, rfl, hd, by rw [List.length_range] at hn; exact hn⟩
  · have h2 : z.natAbs < 10 ^ 18 := Nat.lt_of_not_le h
    have h3 : z.natAbs < 2 ^ 64 := Nat.lt_trans h2 (by decide)
    have hmm := Nat.mod_lt (z.natAbs * 48271 + 7 * (l.map N).length + 11) (show 0 < 2147483647 by decide)
    simp only [q_wipeR_1, q_wipeR_2, q_asg_1, q_asg_2, q_asg_3, q_asg_4, q_asgR_1, q_ownedArg_1, q_ownedArgs_1, q_ownedArgs_2, q_itemsOf_1, q_itemsOf_2, q_evE_1, q_evE_2, q_evE_3, q_evE_4, q_evE_5, q_evE_6, q_evE_7, q_evE_8, q_evE_9, q_evE_10, q_evE_11, q_evE_12, q_evE_13, q_evE_14, q_evE_15, q_evE_16, q_evE_17, q_evE_18, q_evE_19, q_evEs_1, q_evEs_2, q_evP_1, q_evP_2, q_evC_1, q_evC_2, q_evI_1, q_evI_2, q_evRet_1, q_evS_1, q_evS_2, q_evS_3, q_evS_4, q_evS_5, q_evS_6, q_evS_7, q_evS_8, q_evS_9, q_evS_10, q_evS_11, q_evS_12, q_evS_13, q_evS_14, q_evS_15, q_evS_16, q_evSs_1, q_evSs_2, q_oa_0, q_rt_0, q_oa_1, q_rt_1, q_oa_2, q_rt_2, q_oa_3, q_rt_3, q_oa_4, q_rt_4, q_oa_5, q_rt_5, q_oa_6, q_rt_6, q_oa_7, q_rt_7, q_oa_8, q_rt_8, q_oa_9, q_rt_9, q_oa_10, q_rt_10, q_oa_11, q_rt_11, q_oa_12, q_rt_12, q_oa_13, q_rt_13, q_oa_14, q_rt_14, q_oa_15, q_rt_15, q_oa_16, q_rt_16, q_oa_17, q_rt_17, q_ar_0, q_ar_1, q_ar_2, asI_N, asI_i, q_l2, q_l3, q_l4, q_l5, q_l6, q_l7, q_l8, q_l9, q_l10, q_l11, q_l12, q_l13, q_ret, q_bind, q_bindn, q_map, q_mapn, q_one, q_zero, q_evT, q_own, evNeg, startR, List.getElem?_cons_succ, List.getElem?_cons_zero, List.set_cons_succ, List.set_cons_zero, List.map_cons, List.map_nil, List.replicate, List.length_cons, List.length_nil, List.append_eq, List.nil_append, List.cons_append, Bool.and_true, Bool.true_and, Bool.and_false, Bool.false_and, Bool.not_true, Bool.not_false, if_true, if_false, reduceCtorEq, Nat.reduceSub, Nat.reduceAdd, Nat.reduceLeDiff, Bool.false_eq_true, Bool.or_false, Bool.false_or, ite_true, ite_false, n_add, lenOk_0, lenOk_1, lenOk_2, lenOk_3, lenOk_4, lenOk_5, lenOk_6, lenOk_7, lenOk_8, d_18, d_60, d_1000003, d_48271, d_2147483647, d_69621, d_65536, d_2147483629, d_16807, d_31, d_17, d_63, h, decide_false, n_mul h3 (show 48271 < 2 ^ 64 by decide), n_len, n_mul (show 7 < 2 ^ 64 by decide) (show (l.map N).length < 2 ^ 64 by rw [List.length_map]; omega), n_mod (show 0 < 2147483647 by decide), n_rng1 (show 4 ≤ 1000000 by decide)]
    generalize (z.natAbs * 48271 + 7 * (l.map N).length + 11) % 2147483647 = q at hmm
    obtain ⟨ρ', e, l', k5, m6, rfl, hd, hn, hq⟩ := forGo_do (g := .nm 5) (f := blk FUEL ib_draws_2) N (fun pre ρ => ∃ l' k5 m6, ρ = [s0, s1, sL l', some (false, .int z), sN z.natAbs, k5, sN m6, s7] ∧ (Dr l → Dr l') ∧ l'.length ≤ l.length + pre.length ∧ m6 < 2 ^ 40) (l := List.range 4) (ρ := [s0, s1, sL l, some (false, .int z), sN z.natAbs, j5, sN q, s7]) ⟨l, j5, q, rfl, fun h => h, by simp, by omega⟩ (by
      rintro pre x suf ρ hs ⟨l1, k1, m1, rfl, hd, hn, hm⟩
      have hx : x ∈ List.range 4 := by rw [hs]; simp
      rw [List.mem_range] at hx
      have hp : pre.length ≤ 4 := by
        have := congrArg List.length hs
        rw [List.length_range, List.length_append] at this
        omega
      obtain ⟨l2, m2, e, hd2, hn2, hm2⟩ := dr_2 (s0 := s0) (s1 := s1) (s3 := some (false, .int z)) (s4 := sN z.natAbs) (s7 := s7) (l := l1) (mixed := m1) (k := x) (by omega) (by omega) hm
      exact ⟨_, _, rfl, e, l2, sN x, m2, rfl, fun h => hd2 (hd h), by rw [List.length_append]; simp only [List.length_cons, List.length_nil]; omega, hm2⟩)
    rw [e]
    exact ⟨l', sN z.natAbs, k5, sN m6, rfl, hd, by rw [List.length_range] at hn; omega⟩
theorem dr_4 {s0 s3 s4 s6 j7 : Option R} {l : List Nat} {k many : Nat} (hl : l.length ≤ 100000) (hd : Dr l) : ∃ l' k7, blk FUEL ib_draws_4 [s0, sN many, sL l, s3, s4, sN k, s6, j7] = some (.nx [s0, sN many, sL l', s3, s4, sN k, s6, k7]) ∧ Dr l' ∧ l'.length ≤ l.length + 1 ∧ (l.length < many → l'.length = l.length + 1) ∧ (¬ l.length < many → l' = l) := by
  unfold blk ib_draws_4
  by_cases h : l.length < many
  · have app : ∀ base : Nat, Dr (l ++ [(base * 16807 + 31 * l.length + 17) % 1000003]) := fun base => hd.snoc (Nat.mod_lt _ (by decide))
    by_cases h0 : 0 < l.length
    · have hi : k % l.length < l.length := Nat.mod_lt _ h0
      have hx : (l.map N)[k % l.length]? = some (N l[k % l.length]) := by rw [List.getElem?_map, List.getElem?_eq_getElem hi]; rfl
      have hb : l[k % l.length] < 2 ^ 64 := Nat.lt_trans (hd _ (List.getElem_mem hi)) (by decide)
      refine ⟨l ++ [(l[k % l.length] * 16807 + 31 * l.length + 17) % 1000003], sN l[k % l.length], ?_, app _, by simp, fun _ => by simp, fun z => absurd h z⟩
      simp only [q_wipeR_1, q_wipeR_2, q_asg_1, q_asg_2, q_asg_3, q_asg_4, q_asgR_1, q_ownedArg_1, q_ownedArgs_1, q_ownedArgs_2, q_itemsOf_1, q_itemsOf_2, q_evE_1, q_evE_2, q_evE_3, q_evE_4, q_evE_5, q_evE_6, q_evE_7, q_evE_8, q_evE_9, q_evE_10, q_evE_11, q_evE_12, q_evE_13, q_evE_14, q_evE_15, q_evE_16, q_evE_17, q_evE_18, q_evE_19, q_evEs_1, q_evEs_2, q_evP_1, q_evP_2, q_evC_1, q_evC_2, q_evI_1, q_evI_2, q_evRet_1, q_evS_1, q_evS_2, q_evS_3, q_evS_4, q_evS_5, q_evS_6, q_evS_7, q_evS_8, q_evS_9, q_evS_10, q_evS_11, q_evS_12, q_evS_13, q_evS_14, q_evS_15, q_evS_16, q_evSs_1, q_evSs_2, q_oa_0, q_rt_0, q_oa_1, q_rt_1, q_oa_2, q_rt_2, q_oa_3, q_rt_3, q_oa_4, q_rt_4, q_oa_5, q_rt_5, q_oa_6, q_rt_6, q_oa_7, q_rt_7, q_oa_8, q_rt_8, q_oa_9, q_rt_9, q_oa_10, q_rt_10, q_oa_11, q_rt_11, q_oa_12, q_rt_12, q_oa_13, q_rt_13, q_oa_14, q_rt_14, q_oa_15, q_rt_15, q_oa_16, q_rt_16, q_oa_17, q_rt_17, q_ar_0, q_ar_1, q_ar_2, asI_N, asI_i, q_l2, q_l3, q_l4, q_l5, q_l6, q_l7, q_l8, q_l9, q_l10, q_l11, q_l12, q_l13, q_ret, q_bind, q_bindn, q_map, q_mapn, q_one, q_zero, q_evT, q_own, evNeg, startR, List.getElem?_cons_succ, List.getElem?_cons_zero, List.set_cons_succ, List.set_cons_zero, List.map_cons, List.map_nil, List.replicate, List.length_cons, List.length_nil, List.append_eq, List.nil_append, List.cons_append, Bool.and_true, Bool.true_and, Bool.and_false, Bool.false_and, Bool.not_true, Bool.not_false, if_true, if_false, reduceCtorEq, Nat.reduceSub, Nat.reduceAdd, Nat.reduceLeDiff, Bool.false_eq_true, Bool.or_false, Bool.false_or, ite_true, ite_false, n_add, lenOk_0, lenOk_1, lenOk_2, lenOk_3, lenOk_4, lenOk_5, lenOk_6, lenOk_7, lenOk_8, d_18, d_60, d_1000003, d_48271, d_2147483647, d_69621, d_65536, d_2147483629, d_16807, d_31, d_17, d_63, n_len, n_lt, h, h0, decide_true, n_gt, n_mod h0, List.length_map, n_ixl, hx, n_mul hb (show 16807 < 2 ^ 64 by decide), n_mul (show 31 < 2 ^ 64 by decide) (show l.length < 2 ^ 64 by omega), n_mod (show 0 < 1000003 by decide)]
      rw [if_pos (lenOk_of (by omega))]
      simp only [q_wipeR_1, q_wipeR_2, q_asg_1, q_asg_2, q_asg_3, q_asg_4, q_asgR_1, q_ownedArg_1, q_ownedArgs_1, q_ownedArgs_2, q_itemsOf_1, q_itemsOf_2, q_evE_1, q_evE_2, q_evE_3, q_evE_4, q_evE_5, q_evE_6, q_evE_7, q_evE_8, q_evE_9, q_evE_10, q_evE_11, q_evE_12, q_evE_13, q_evE_14, q_evE_15, q_evE_16, q_evE_17, q_evE_18, q_evE_19, q_evEs_1, q_evEs_2, q_evP_1, q_evP_2, q_evC_1, q_evC_2, q_evI_1, q_evI_2, q_evRet_1, q_evS_1, q_evS_2, q_evS_3, q_evS_4, q_evS_5, q_evS_6, q_evS_7, q_evS_8, q_evS_9, q_evS_10, q_evS_11, q_evS_12, q_evS_13, q_evS_14, q_evS_15, q_evS_16, q_evSs_1, q_evSs_2, q_oa_0, q_rt_0, q_oa_1, q_rt_1, q_oa_2, q_rt_2, q_oa_3, q_rt_3, q_oa_4, q_rt_4, q_oa_5, q_rt_5, q_oa_6, q_rt_6, q_oa_7, q_rt_7, q_oa_8, q_rt_8, q_oa_9, q_rt_9, q_oa_10, q_rt_10, q_oa_11, q_rt_11, q_oa_12, q_rt_12, q_oa_13, q_rt_13, q_oa_14, q_rt_14, q_oa_15, q_rt_15, q_oa_16, q_rt_16, q_oa_17, q_rt_17, q_ar_0, q_ar_1, q_ar_2, asI_N, asI_i, q_l2, q_l3, q_l4, q_l5, q_l6, q_l7, q_l8, q_l9, q_l10, q_l11, q_l12, q_l13, q_ret, q_bind, q_bindn, q_map, q_mapn, q_one, q_zero, q_evT, q_own, evNeg, startR, List.getElem?_cons_succ, List.getElem?_cons_zero, List.set_cons_succ, List.set_cons_zero, List.map_cons, List.map_nil, List.replicate, List.length_cons, List.length_nil, List.append_eq, List.nil_append, List.cons_append, Bool.and_true, Bool.true_and, Bool.and_false, Bool.false_and, Bool.not_true, Bool.not_false, if_true, if_false, reduceCtorEq, Nat.reduceSub, Nat.reduceAdd, Nat.reduceLeDiff, Bool.false_eq_true, Bool.or_false, Bool.false_or, ite_true, ite_false, n_add, lenOk_0, lenOk_1, lenOk_2, lenOk_3, lenOk_4, lenOk_5, lenOk_6, lenOk_7, lenOk_8, List.map_append, sL]
    · refine ⟨l ++ [(0 * 16807 + 31 * l.length + 17) % 1000003], sN 0, ?_, app _, by simp, fun _ => by simp, fun z => absurd h z⟩
      simp only [q_wipeR_1, q_wipeR_2, q_asg_1, q_asg_2, q_asg_3, q_asg_4, q_asgR_1, q_ownedArg_1, q_ownedArgs_1, q_ownedArgs_2, q_itemsOf_1, q_itemsOf_2, q_evE_1, q_evE_2, q_evE_3, q_evE_4, q_evE_5, q_evE_6, q_evE_7, q_evE_8, q_evE_9, q_evE_10, q_evE_11, q_evE_12, q_evE_13, q_evE_14, q_evE_15, q_evE_16, q_evE_17, q_evE_18, q_evE_19, q_evEs_1, q_evEs_2, q_evP_1, q_evP_2, q_evC_1, q_evC_2, q_evI_1, q_evI_2, q_evRet_1, q_evS_1, q_evS_2, q_evS_3, q_evS_4, q_evS_5, q_evS_6, q_evS_7, q_evS_8, q_evS_9, q_evS_10, q_evS_11, q_evS_12, q_evS_13, q_evS_14, q_evS_15, q_evS_16, q_evSs_1, q_evSs_2, q_oa_0, q_rt_0, q_oa_1, q_rt_1, q_oa_2, q_rt_2, q_oa_3, q_rt_3, q_oa_4, q_rt_4, q_oa_5, q_rt_5, q_oa_6, q_rt_6, q_oa_7, q_rt_7, q_oa_8, q_rt_8, q_oa_9, q_rt_9, q_oa_10, q_rt_10, q_oa_11, q_rt_11, q_oa_12, q_rt_12, q_oa_13, q_rt_13, q_oa_14, q_rt_14, q_oa_15, q_rt_15, q_oa_16, q_rt_16, q_oa_17, q_rt_17, q_ar_0, q_ar_1, q_ar_2, asI_N, asI_i, q_l2, q_l3, q_l4, q_l5, q_l6, q_l7, q_l8, q_l9, q_l10, q_l11, q_l12, q_l13, q_ret, q_bind, q_bindn, q_map, q_mapn, q_one, q_zero, q_evT, q_own, evNeg, startR, List.getElem?_cons_succ, List.getElem?_cons_zero, List.set_cons_succ, List.set_cons_zero, List.map_cons, List.map_nil, List.replicate, List.length_cons, List.length_nil, List.append_eq, List.nil_append, List.cons_append, Bool.and_true, Bool.true_and, Bool.and_false, Bool.false_and, Bool.not_true, Bool.not_false, if_true, if_false, reduceCtorEq, Nat.reduceSub, Nat.reduceAdd, Nat.reduceLeDiff, Bool.false_eq_true, Bool.or_false, Bool.false_or, ite_true, ite_false, n_add, lenOk_0, lenOk_1, lenOk_2, lenOk_3, lenOk_4, lenOk_5, lenOk_6, lenOk_7, lenOk_8, d_18, d_60, d_1000003, d_48271, d_2147483647, d_69621, d_65536, d_2147483629, d_16807, d_31, d_17, d_63, n_len, n_lt, h, h0, decide_true, decide_false, n_gt, List.length_map, n_mul (show 0 < 2 ^ 64 by decide) (show 16807 < 2 ^ 64 by decide), n_mul (show 31 < 2 ^ 64 by decide) (show l.length < 2 ^ 64 by omega), n_mod (show 0 < 1000003 by decide)]
      rw [if_pos (lenOk_of (by omega))]
      simp only [q_wipeR_1, q_wipeR_2, q_asg_1, q_asg_2, q_asg_3, q_asg_4, q_asgR_1, q_ownedArg_1, q_ownedArgs_1, q_ownedArgs_2, q_itemsOf_1, q_itemsOf_2, q_evE_1, q_evE_2, q_evE_3, q_evE_4, q_evE_5, q_evE_6, q_evE_7, q_evE_8, q_evE_9, q_evE_10, q_evE_11, q_evE_12, q_evE_13, q_evE_14, q_evE_15, q_evE_16, q_evE_17, q_evE_18, q_evE_19, q_evEs_1, q_evEs_2, q_evP_1, q_evP_2, q_evC_1, q_evC_2, q_evI_1, q_evI_2, q_evRet_1, q_evS_1, q_evS_2, q_evS_3, q_evS_4, q_evS_5, q_evS_6, q_evS_7, q_evS_8, q_evS_9, q_evS_10, q_evS_11, q_evS_12, q_evS_13, q_evS_14, q_evS_15, q_evS_16, q_evSs_1, q_evSs_2, q_oa_0, q_rt_0, q_oa_1, q_rt_1, q_oa_2, q_rt_2, q_oa_3, q_rt_3, q_oa_4, q_rt_4, q_oa_5, q_rt_5, q_oa_6, q_rt_6, q_oa_7, q_rt_7, q_oa_8, q_rt_8, q_oa_9, q_rt_9, q_oa_10, q_rt_10, q_oa_11, q_rt_11, q_oa_12, q_rt_12, q_oa_13, q_rt_13, q_oa_14, q_rt_14, q_oa_15, q_rt_15, q_oa_16, q_rt_16, q_oa_17, q_rt_17, q_ar_0, q_ar_1, q_ar_2, asI_N, asI_i, q_l2, q_l3, q_l4, q_l5, q_l6, q_l7, q_l8, q_l9, q_l10, q_l11, q_l12, q_l13, q_ret, q_bind, q_bindn, q_map, q_mapn, q_one, q_zero, q_evT, q_own, evNeg, startR, List.getElem?_cons_succ, List.getElem?_cons_zero, List.set_cons_succ, List.set_cons_zero, List.map_cons, List.map_nil, List.replicate, List.length_cons, List.length_nil, List.append_eq, List.nil_append, List.cons_append, Bool.and_true, Bool.true_and, Bool.and_false, Bool.false_and, Bool.not_true, Bool.not_false, if_true, if_false, reduceCtorEq, Nat.reduceSub, Nat.reduceAdd, Nat.reduceLeDiff, Bool.false_eq_true, Bool.or_false, Bool.false_or, ite_true, ite_false, n_add, lenOk_0, lenOk_1, lenOk_2, lenOk_3, lenOk_4, lenOk_5, lenOk_6, lenOk_7, lenOk_8, List.map_append, sL]
  · refine ⟨l, j7, ?_, hd, by omega, fun z => absurd z h, fun _ => rfl⟩
    simp only [q_wipeR_1, q_wipeR_2, q_asg_1, q_asg_2, q_asg_3, q_asg_4, q_asgR_1, q_ownedArg_1, q_ownedArgs_1, q_ownedArgs_2, q_itemsOf_1, q_itemsOf_2, q_evE_1, q_evE_2, q_evE_3, q_evE_4, q_evE_5, q_evE_6, q_evE_7, q_evE_8, q_evE_9, q_evE_10, q_evE_11, q_evE_12, q_evE_13, q_evE_14, q_evE_15, q_evE_16, q_evE_17, q_evE_18, q_evE_19, q_evEs_1, q_evEs_2, q_evP_1, q_evP_2, q_evC_1, q_evC_2, q_evI_1, q_evI_2, q_evRet_1, q_evS_1, q_evS_2, q_evS_3, q_evS_4, q_evS_5, q_evS_6, q_evS_7, q_evS_8, q_evS_9, q_evS_10, q_evS_11, q_evS_12, q_evS_13, q_evS_14, q_evS_15, q_evS_16, q_evSs_1, q_evSs_2, q_oa_0, q_rt_0, q_oa_1, q_rt_1, q_oa_2, q_rt_2, q_oa_3, q_rt_3, q_oa_4, q_rt_4, q_oa_5, q_rt_5, q_oa_6, q_rt_6, q_oa_7, q_rt_7, q_oa_8, q_rt_8, q_oa_9, q_rt_9, q_oa_10, q_rt_10, q_oa_11, q_rt_11, q_oa_12, q_rt_12, q_oa_13, q_rt_13, q_oa_14, q_rt_14, q_oa_15, q_rt_15, q_oa_16, q_rt_16, q_oa_17, q_rt_17, q_ar_0, q_ar_1, q_ar_2, asI_N, asI_i, q_l2, q_l3, q_l4, q_l5, q_l6, q_l7, q_l8, q_l9, q_l10, q_l11, q_l12, q_l13, q_ret, q_bind, q_bindn, q_map, q_mapn, q_one, q_zero, q_evT, q_own, evNeg, startR, List.getElem?_cons_succ, List.getElem?_cons_zero, List.set_cons_succ, List.set_cons_zero, List.map_cons, List.map_nil, List.replicate, List.length_cons, List.length_nil, List.append_eq, List.nil_append, List.cons_append, Bool.and_true, Bool.true_and, Bool.and_false, Bool.false_and, Bool.not_true, Bool.not_false, if_true, if_false, reduceCtorEq, Nat.reduceSub, Nat.reduceAdd, Nat.reduceLeDiff, Bool.false_eq_true, Bool.or_false, Bool.false_or, ite_true, ite_false, n_add, lenOk_0, lenOk_1, lenOk_2, lenOk_3, lenOk_4, lenOk_5, lenOk_6, lenOk_7, lenOk_8, d_18, d_60, d_1000003, d_48271, d_2147483647, d_69621, d_65536, d_2147483629, d_16807, d_31, d_17, d_63, n_len, n_lt, List.length_map, h, decide_false]
/-- THE DRAWS -/
theorem draws_is {ns : List Int} {many : Nat} (hn : ns.length ≤ 63) (hm : many ≤ 1000) : ∃ l : List Nat, f_draws [.list (ns.map .int), N many] = some (true, .list (l.map N)) ∧ l.length = many ∧ Dr l := by
  obtain ⟨ρ1, e1, l1, a3, a4, a5, a6, rfl, hd1, hn1⟩ := forGo_do (g := .nm 3) (f := blk FUEL ib_draws_3) PyData.int (fun pre ρ => ∃ l' k3 k4 k5 k6, ρ = [some (false, .list (ns.map .int)), sN many, sL l', k3, k4, k5, k6, none] ∧ Dr l' ∧ l'.length ≤ 60 * pre.length) (l := ns) (ρ := [some (false, .list (ns.map .int)), sN many, sL [], none, none, none, none, none]) ⟨[], none, none, none, none, rfl, (fun x hx => by cases hx), by simp⟩ (by
      rintro pre x suf ρ hs ⟨l1, k3, k4, k5, k6, rfl, hd, hl⟩
      have hp : pre.length ≤ 63 := by
        have := congrArg List.length hs
        rw [List.length_append] at this
        omega
      obtain ⟨l2, b4, b5, b6, e, hd2, hn2⟩ := dr_3 (s0 := some (false, .list (ns.map .int))) (s1 := sN many) (j4 := k4) (j5 := k5) (j6 := k6) (s7 := none) (l := l1) (z := x) (by omega)
      exact ⟨_, _, rfl, e, l2, some (false, .int x), b4, b5, b6, rfl, hd2 hd, by rw [List.length_append]; simp only [List.length_cons, List.length_nil]; omega⟩)
  obtain ⟨ρ2, e2, l2, b5, b7, rfl, hd2, hn2, hm2⟩ := forGo_do (g := .nm 5) (f := blk FUEL ib_draws_4) N (fun pre ρ => ∃ l' k5 k7, ρ = [some (false, .list (ns.map .int)), sN many, sL l', a3, a4, k5, a6, k7] ∧ Dr l' ∧ l'.length ≤ l1.length + pre.length ∧ pre.length ≤ l'.length) (l := List.range many) (ρ := [some (false, .list (ns.map .int)), sN many, sL l1, a3, a4, a5, a6, none]) ⟨l1, a5, none, rfl, hd1, by simp, by simp⟩ (by
      rintro pre x suf ρ hs ⟨l3, k5, k7, rfl, hd, hl, hg⟩
      have hp : pre.length < many := by
        have := congrArg List.length hs
        rw [List.length_range, List.length_append, List.length_cons] at this
        omega
      obtain ⟨l4, b7, e, hd2, hn2, h3, h4⟩ := dr_4 (s0 := some (false, .list (ns.map .int))) (s3 := a3) (s4 := a4) (s6 := a6) (j7 := k7) (l := l3) (k := x) (many := many) (by omega) hd
      refine ⟨_, _, rfl, e, l4, sN x, b7, rfl, hd2, by rw [List.length_append]; simp only [List.length_cons, List.length_nil]; omega, ?_⟩
      rw [List.length_append]
      simp only [List.length_cons, List.length_nil]
      by_cases hc : l3.length < many
      · have := h3 hc; omega
      · rw [h4 hc]; omega)
  rw [List.length_range] at hm2
  refine ⟨l2.take many, ?_, by rw [List.length_take]; omega, fun x hx => hd2 x (List.mem_of_mem_take hx)⟩
  have e63 : (ns.map PyData.int).take 63 = ns.map PyData.int := List.take_of_length_le (by rw [List.length_map]; exact hn)
  have es : evSl (.list (ns.map .int)) none (some 63) = some (true, .list (ns.map .int)) := (n_slh _ 63).trans (by rw [e63])
  have em : evSl (.list (l2.map N)) none (some (many : Int)) = some (true, .list ((l2.take many).map N)) := (n_slh _ many).trans (by rw [List.map_take])
  have e1' : forGo (.nm 3) (blk FUEL ib_draws_3) (ns.map .int) [some (false, .list (ns.map .int)), sN many, some (true, .list []), none, none, none, none, none] = _ := e1
  unfold f_draws evDef ir_draws
  simp only [q_wipeR_1, q_wipeR_2, q_asg_1, q_asg_2, q_asg_3, q_asg_4, q_asgR_1, q_ownedArg_1, q_ownedArgs_1, q_ownedArgs_2, q_itemsOf_1, q_itemsOf_2, q_evE_1, q_evE_2, q_evE_3, q_evE_4, q_evE_5, q_evE_6, q_evE_7, q_evE_8, q_evE_9, q_evE_10, q_evE_11, q_evE_12, q_evE_13, q_evE_14, q_evE_15, q_evE_16, q_evE_17, q_evE_18, q_evE_19, q_evEs_1, q_evEs_2, q_evP_1, q_evP_2, q_evC_1, q_evC_2, q_evI_1, q_evI_2, q_evRet_1, q_evS_1, q_evS_2, q_evS_3, q_evS_4, q_evS_5, q_evS_6, q_evS_7, q_evS_8, q_evS_9, q_evS_10, q_evS_11, q_evS_12, q_evS_13, q_evS_14, q_evS_15, q_evS_16, q_evSs_1, q_evSs_2, q_oa_0, q_rt_0, q_oa_1, q_rt_1, q_oa_2, q_rt_2, q_oa_3, q_rt_3, q_oa_4, q_rt_4, q_oa_5, q_rt_5, q_oa_6, q_rt_6, q_oa_7, q_rt_7, q_oa_8, q_rt_8, q_oa_9, q_rt_9, q_oa_10, q_rt_10, q_oa_11, q_rt_11, q_oa_12, q_rt_12, q_oa_13, q_rt_13, q_oa_14, q_rt_14, q_oa_15, q_rt_15, q_oa_16, q_rt_16, q_oa_17, q_rt_17, q_ar_0, q_ar_1, q_ar_2, asI_N, asI_i, q_l2, q_l3, q_l4, q_l5, q_l6, q_l7, q_l8, q_l9, q_l10, q_l11, q_l12, q_l13, q_ret, q_bind, q_bindn, q_map, q_mapn, q_one, q_zero, q_evT, q_own, evNeg, startR, List.getElem?_cons_succ, List.getElem?_cons_zero, List.set_cons_succ, List.set_cons_zero, List.map_cons, List.map_nil, List.replicate, List.length_cons, List.length_nil, List.append_eq, List.nil_append, List.cons_append, Bool.and_true, Bool.true_and, Bool.and_false, Bool.false_and, Bool.not_true, Bool.not_false, if_true, if_false, reduceCtorEq, Nat.reduceSub, Nat.reduceAdd, Nat.reduceLeDiff, Bool.false_eq_true, Bool.or_false, Bool.false_or, ite_true, ite_false, n_add, lenOk_0, lenOk_1, lenOk_2, lenOk_3, lenOk_4, lenOk_5, lenOk_6, lenOk_7, lenOk_8, es]
  rw [e1']
  simp only [q_wipeR_1, q_wipeR_2, q_asg_1, q_asg_2, q_asg_3, q_asg_4, q_asgR_1, q_ownedArg_1, q_ownedArgs_1, q_ownedArgs_2, q_itemsOf_1, q_itemsOf_2, q_evE_1, q_evE_2, q_evE_3, q_evE_4, q_evE_5, q_evE_6, q_evE_7, q_evE_8, q_evE_9, q_evE_10, q_evE_11, q_evE_12, q_evE_13, q_evE_14, q_evE_15, q_evE_16, q_evE_17, q_evE_18, q_evE_19, q_evEs_1, q_evEs_2, q_evP_1, q_evP_2, q_evC_1, q_evC_2, q_evI_1, q_evI_2, q_evRet_1, q_evS_1, q_evS_2, q_evS_3, q_evS_4, q_evS_5, q_evS_6, q_evS_7, q_evS_8, q_evS_9, q_evS_10, q_evS_11, q_evS_12, q_evS_13, q_evS_14, q_evS_15, q_evS_16, q_evSs_1, q_evSs_2, q_oa_0, q_rt_0, q_oa_1, q_rt_1, q_oa_2, q_rt_2, q_oa_3, q_rt_3, q_oa_4, q_rt_4, q_oa_5, q_rt_5, q_oa_6, q_rt_6, q_oa_7, q_rt_7, q_oa_8, q_rt_8, q_oa_9, q_rt_9, q_oa_10, q_rt_10, q_oa_11, q_rt_11, q_oa_12, q_rt_12, q_oa_13, q_rt_13, q_oa_14, q_rt_14, q_oa_15, q_rt_15, q_oa_16, q_rt_16, q_oa_17, q_rt_17, q_ar_0, q_ar_1, q_ar_2, asI_N, asI_i, q_l2, q_l3, q_l4, q_l5, q_l6, q_l7, q_l8, q_l9, q_l10, q_l11, q_l12, q_l13, q_ret, q_bind, q_bindn, q_map, q_mapn, q_one, q_zero, q_evT, q_own, evNeg, startR, List.getElem?_cons_succ, List.getElem?_cons_zero, List.set_cons_succ, List.set_cons_zero, List.map_cons, List.map_nil, List.replicate, List.length_cons, List.length_nil, List.append_eq, List.nil_append, List.cons_append, Bool.and_true, Bool.true_and, Bool.and_false, Bool.false_and, Bool.not_true, Bool.not_false, if_true, if_false, reduceCtorEq, Nat.reduceSub, Nat.reduceAdd, Nat.reduceLeDiff, Bool.false_eq_true, Bool.or_false, Bool.false_or, ite_true, ite_false, n_add, lenOk_0, lenOk_1, lenOk_2, lenOk_3, lenOk_4, lenOk_5, lenOk_6, lenOk_7, lenOk_8, n_rng1 (show many ≤ 1000000 by omega)]
  rw [e2]
  simp only [q_wipeR_1, q_wipeR_2, q_asg_1, q_asg_2, q_asg_3, q_asg_4, q_asgR_1, q_ownedArg_1, q_ownedArgs_1, q_ownedArgs_2, q_itemsOf_1, q_itemsOf_2, q_evE_1, q_evE_2, q_evE_3, q_evE_4, q_evE_5, q_evE_6, q_evE_7, q_evE_8, q_evE_9, q_evE_10, q_evE_11, q_evE_12, q_evE_13, q_evE_14, q_evE_15, q_evE_16, q_evE_17, q_evE_18, q_evE_19, q_evEs_1, q_evEs_2, q_evP_1, q_evP_2, q_evC_1, q_evC_2, q_evI_1, q_evI_2, q_evRet_1, q_evS_1, q_evS_2, q_evS_3, q_evS_4, q_evS_5, q_evS_6, q_evS_7, q_evS_8, q_evS_9, q_evS_10, q_evS_11, q_evS_12, q_evS_13, q_evS_14, q_evS_15, q_evS_16, q_evSs_1, q_evSs_2, q_oa_0, q_rt_0, q_oa_1, q_rt_1, q_oa_2, q_rt_2, q_oa_3, q_rt_3, q_oa_4, q_rt_4, q_oa_5, q_rt_5, q_oa_6, q_rt_6, q_oa_7, q_rt_7, q_oa_8, q_rt_8, q_oa_9, q_rt_9, q_oa_10, q_rt_10, q_oa_11, q_rt_11, q_oa_12, q_rt_12, q_oa_13, q_rt_13, q_oa_14, q_rt_14, q_oa_15, q_rt_15, q_oa_16, q_rt_16, q_oa_17, q_rt_17, q_ar_0, q_ar_1, q_ar_2, asI_N, asI_i, q_l2, q_l3, q_l4, q_l5, q_l6, q_l7, q_l8, q_l9, q_l10, q_l11, q_l12, q_l13, q_ret, q_bind, q_bindn, q_map, q_mapn, q_one, q_zero, q_evT, q_own, evNeg, startR, List.getElem?_cons_succ, List.getElem?_cons_zero, List.set_cons_succ, List.set_cons_zero, List.map_cons, List.map_nil, List.replicate, List.length_cons, List.length_nil, List.append_eq, List.nil_append, List.cons_append, Bool.and_true, Bool.true_and, Bool.and_false, Bool.false_and, Bool.not_true, Bool.not_false, if_true, if_false, reduceCtorEq, Nat.reduceSub, Nat.reduceAdd, Nat.reduceLeDiff, Bool.false_eq_true, Bool.or_false, Bool.false_or, ite_true, ite_false, n_add, lenOk_0, lenOk_1, lenOk_2, lenOk_3, lenOk_4, lenOk_5, lenOk_6, lenOk_7, lenOk_8, em]
end PV

set_option Elab.async false
set_option linter.all false
set_option maxRecDepth 100000
set_option maxHeartbeats 4000000
namespace K88
open PySem PySem.Spec PyProof.Rows L2 PV
def topS (i : Nat) : Stmt := PySem.Challenge.pw_likesheets_k88_cuttings_from_edge_to_edg.main.body.getD i (.Pass ⟨0, 0, 0, 0⟩)
def cst : List (Str × PyData) := []
def t_0 : List (Str × Fn) := []
def ib_first_empty_1 : Ss :=
  (.cons (.ite (.cmp .eq (.bin .band (.bin .shr (.v 2) (.v 3)) (.c (.int 1))) (.c (.int 0))) (.cons (.ret (.tup (.cons (.bin .mod (.v 3) (.v 0)) (.cons (.bin .fdiv (.v 3) (.v 0)) .nil))))
  .nil) .nil)
  .nil)
def ir_first_empty : Ss :=
  (.cons (.for_ (.nm 3) (.rng (.cons (.v 1) .nil)) ib_first_empty_1)
  (.cons (.ret (.c .none))
  .nil))
def f_first_empty : Fn := evDef FUEL 3 4 ir_first_empty
theorem cm_first_empty : compDef ⟨["m", "cells", "filled", "at"], fun x => t_0.lookup x, fun x => cst.lookup x⟩ (topS 1) = some ir_first_empty := by kernel_rfl
theorem sc_first_empty : FnScope ["m", "cells", "filled", "at"] ["m", "cells", "filled"] (defScope (topS 1)) := ⟨rfl, rfl, rfl, by decide +kernel, rfl, by decide +kernel, by decide +kernel⟩
def t_1 : List (Str × Fn) := ("first_empty", f_first_empty) :: t_0
def ic_mark_of_1 : E :=
  (.comp2 [5, 6] (.nm 5) (.rng (.cons (.v 2) (.cons (.bin .add (.v 2) (.v 4)) .nil))) .no [6] (.nm 6) (.rng (.cons (.v 1) (.cons (.bin .add (.v 1) (.v 3)) .nil))) .no (.bin .shl (.c (.int 1)) (.bin .add (.bin .mul (.v 5) (.v 0)) (.v 6))))
def ir_mark_of : Ss :=
  (.cons (.ret (.bi .sum (.cons ic_mark_of_1 .nil)))
  .nil)
def f_mark_of : Fn := evDef FUEL 5 7 ir_mark_of
theorem cm_mark_of : compDef ⟨["m", "x", "y", "w", "h", "row", "column"], fun x => t_1.lookup x, fun x => cst.lookup x⟩ (topS 2) = some ir_mark_of := by kernel_rfl
theorem sc_mark_of : FnScope ["m", "x", "y", "w", "h", "row", "column"] ["m", "x", "y", "w", "h"] (defScope (topS 2)) := ⟨rfl, rfl, rfl, by decide +kernel, rfl, by decide +kernel, by decide +kernel⟩
def t_2 : List (Str × Fn) := ("mark_of", f_mark_of) :: t_1
def ib_next_rectangles_1 : Ss :=
  (.cons (.asgs 8 (.call f_mark_of (.cons (.v 0) (.cons (.v 3) (.cons (.v 4) (.cons (.v 7) (.cons (.v 6) .nil)))))))
  (.cons (.ite (.cmp .eq (.bin .band (.v 2) (.v 8)) (.c (.int 0))) (.cons (.app 5 (.tup (.cons (.tup (.cons (.v 4) (.cons (.v 3) (.cons (.v 6) (.cons (.v 7) .nil))))) (.cons (.bin .bor (.v 2) (.v 8)) .nil))))
  .nil) .nil)
  .nil))
def ib_next_rectangles_2 : Ss :=
  (.cons (.for_ (.nm 7) (.rng (.cons (.c (.int 1)) (.cons (.bin .add (.bin .sub (.v 0) (.v 3)) (.c (.int 1))) .nil))) ib_next_rectangles_1)
  .nil)
def ir_next_rectangles : Ss :=
  (.cons (.asg (.two (.nm 3) (.nm 4)) (.call f_first_empty (.cons (.v 0) (.cons (.bin .mul (.v 0) (.v 1)) (.cons (.v 2) .nil)))))
  (.cons (.asg (.nm 5) (.lst .nil))
  (.cons (.for_ (.nm 6) (.rng (.cons (.c (.int 1)) (.cons (.bin .add (.bin .sub (.v 1) (.v 4)) (.c (.int 1))) .nil))) ib_next_rectangles_2)
  (.cons (.ret (.v 5))
  .nil))))
def f_next_rectangles : Fn := evDef FUEL 3 9 ir_next_rectangles
theorem cm_next_rectangles : compDef ⟨["m", "n", "filled", "x", "y", "found", "h", "w", "mark"], fun x => t_2.lookup x, fun x => cst.lookup x⟩ (topS 3) = some ir_next_rectangles := by kernel_rfl
theorem sc_next_rectangles : FnScope ["m", "n", "filled", "x", "y", "found", "h", "w", "mark"] ["m", "n", "filled"] (defScope (topS 3)) := ⟨rfl, rfl, rfl, by decide +kernel, rfl, by decide +kernel, by decide +kernel⟩
def t_3 : List (Str × Fn) := ("next_rectangles", f_next_rectangles) :: t_2
def ic_all_ways_1 : E :=
  (.comp [7, 8] (.two (.nm 7) (.nm 8)) (.seq (.call f_next_rectangles (.cons (.v 0) (.cons (.v 1) (.cons (.v 6) .nil))))) .no (.tup (.cons (.bin .add (.v 5) (.lst (.cons (.v 7) .nil))) (.cons (.v 8) .nil))))
def ib_all_ways_2 : Ss :=
  (.cons (.pop (.two (.nm 5) (.nm 6)) 3)
  (.cons (.ite (.cmp .eq (.v 6) (.v 2)) (.cons (.app 4 (.v 5))
  .nil) (.cons (.ext 3 ic_all_ways_1)
  .nil))
  .nil))
def iw_all_ways_2 : E :=
  (.cmp .gt (.bi .len (.cons (.v 3) .nil)) (.c (.int 0)))
def ir_all_ways : Ss :=
  (.cons (.asgs 2 (.bin .sub (.bin .shl (.c (.int 1)) (.bin .mul (.v 0) (.v 1))) (.c (.int 1))))
  (.cons (.asg (.nm 3) (.lst (.cons (.tup (.cons (.lst .nil) (.cons (.c (.int 0)) .nil))) .nil)))
  (.cons (.asg (.nm 4) (.lst .nil))
  (.cons (.while_ iw_all_ways_2 ib_all_ways_2)
  (.cons (.ret (.v 4))
  .nil)))))
def f_all_ways : Fn := evDef FUEL 2 9 ir_all_ways
theorem cm_all_ways : compDef ⟨["m", "n", "whole", "waiting", "found", "way", "filled", "rectangle", "more"], fun x => t_3.lookup x, fun x => cst.lookup x⟩ (topS 4) = some ir_all_ways := by kernel_rfl
theorem sc_all_ways : FnScope ["m", "n", "whole", "waiting", "found", "way", "filled", "rectangle", "more"] ["m", "n"] (defScope (topS 4)) := ⟨rfl, rfl, rfl, by decide +kernel, rfl, by decide +kernel, by decide +kernel⟩
def t_4 : List (Str × Fn) := ("all_ways", f_all_ways) :: t_3
def ib_is_clear_1 : Ss :=
  (.cons (.ite (.chain .lt .lt (.ix (.v 3) (.v 1)) (.v 2) (.bin .add (.ix (.v 3) (.v 1)) (.ix (.v 3) (.bin .add (.v 1) (.c (.int 2)))))) (.cons (.ret (.c (.bool false)))
  .nil) .nil)
  .nil)
def ir_is_clear : Ss :=
  (.cons (.for_ (.nm 3) (.seq (.v 0)) ib_is_clear_1)
  (.cons (.ret (.c (.bool true)))
  .nil))
def f_is_clear : Fn := evDef FUEL 3 4 ir_is_clear
theorem cm_is_clear : compDef ⟨["way", "side", "line", "rectangle"], fun x => t_4.lookup x, fun x => cst.lookup x⟩ (topS 5) = some ir_is_clear := by kernel_rfl
theorem sc_is_clear : FnScope ["way", "side", "line", "rectangle"] ["way", "side", "line"] (defScope (topS 5)) := ⟨rfl, rfl, rfl, by decide +kernel, rfl, by decide +kernel, by decide +kernel⟩
def t_5 : List (Str × Fn) := ("is_clear", f_is_clear) :: t_4
def ic_parts_at_1 : E :=
  (.comp [4] (.nm 4) (.seq (.v 0)) (.yes (.cmp .lt (.ix (.v 4) (.v 1)) (.v 2))) (.v 4))
def ic_parts_at_2 : E :=
  (.comp [4] (.nm 4) (.seq (.v 0)) (.yes (.cmp .ge (.ix (.v 4) (.v 1)) (.v 2))) (.v 4))
def ir_parts_at : Ss :=
  (.cons (.asgs 3 ic_parts_at_1)
  (.cons (.ret (.tup (.cons (.v 3) (.cons ic_parts_at_2 .nil))))
  .nil))
def f_parts_at : Fn := evDef FUEL 3 5 ir_parts_at
theorem cm_parts_at : compDef ⟨["way", "side", "line", "lower", "rectangle"], fun x => t_5.lookup x, fun x => cst.lookup x⟩ (topS 6) = some ir_parts_at := by kernel_rfl
theorem sc_parts_at : FnScope ["way", "side", "line", "lower", "rectangle"] ["way", "side", "line"] (defScope (topS 6)) := ⟨rfl, rfl, rfl, by decide +kernel, rfl, by decide +kernel, by decide +kernel⟩
def t_6 : List (Str × Fn) := ("parts_at", f_parts_at) :: t_5
def ic_first_clear_1 : E :=
  (.comp [3] (.nm 3) (.seq (.v 0)) .no (.ix (.v 3) (.v 1)))
def ic_first_clear_2 : E :=
  (.comp [3] (.nm 3) (.seq (.v 0)) .no (.ix (.v 3) (.v 1)))
def ib_first_clear_3 : Ss :=
  (.cons (.ite (.and (.cmp .gt (.v 4) (.v 2)) (.call f_is_clear (.cons (.v 0) (.cons (.v 1) (.cons (.v 4) .nil))))) (.cons (.ret (.tup (.cons (.v 1) (.cons (.v 4) .nil))))
  .nil) .nil)
  .nil)
def ib_first_clear_4 : Ss :=
  (.cons (.asgs 2 (.bi .min (.cons ic_first_clear_1 .nil)))
  (.cons (.for_ (.nm 4) (.seq (.bi .sortedSet (.cons ic_first_clear_2 .nil))) ib_first_clear_3)
  .nil))
def ir_first_clear : Ss :=
  (.cons (.for_ (.nm 1) (.rng (.cons (.c (.int 2)) .nil)) ib_first_clear_4)
  (.cons (.ret (.c .none))
  .nil))
def f_first_clear : Fn := evDef FUEL 1 5 ir_first_clear
theorem cm_first_clear : compDef ⟨["way", "side", "least", "rectangle", "line"], fun x => t_6.lookup x, fun x => cst.lookup x⟩ (topS 7) = some ir_first_clear := by kernel_rfl
theorem sc_first_clear : FnScope ["way", "side", "least", "rectangle", "line"] ["way"] (defScope (topS 7)) := ⟨rfl, rfl, rfl, by decide +kernel, rfl, by decide +kernel, by decide +kernel⟩
def t_7 : List (Str × Fn) := ("first_clear", f_first_clear) :: t_6
def ib_comes_from_edge_to_edge_1 : Ss :=
  (.cons (.pop (.nm 2) 1)
  (.cons (.ite (.cmp .gt (.bi .len (.cons (.v 2) .nil)) (.c (.int 1))) (.cons (.asgs 3 (.call f_first_clear (.cons (.v 2) .nil)))
  (.cons (.ite (.cmp .isn (.v 3) (.c .none)) (.cons (.ret (.c (.bool false)))
  .nil) .nil)
  (.cons (.ext 1 (.call f_parts_at (.cons (.v 2) (.cons (.ix (.v 3) (.c (.int 0))) (.cons (.ix (.v 3) (.c (.int 1))) .nil)))))
  .nil))) .nil)
  .nil))
def iw_comes_from_edge_to_edge_1 : E :=
  (.cmp .gt (.bi .len (.cons (.v 1) .nil)) (.c (.int 0)))
def ir_comes_from_edge_to_edge : Ss :=
  (.cons (.asg (.nm 1) (.lst (.cons (.v 0) .nil)))
  (.cons (.while_ iw_comes_from_edge_to_edge_1 ib_comes_from_edge_to_edge_1)
  (.cons (.ret (.c (.bool true)))
  .nil)))
def f_comes_from_edge_to_edge : Fn := evDef FUEL 1 4 ir_comes_from_edge_to_edge
theorem cm_comes_from_edge_to_edge : compDef ⟨["way", "waiting", "part", "found"], fun x => t_7.lookup x, fun x => cst.lookup x⟩ (topS 8) = some ir_comes_from_edge_to_edge := by kernel_rfl
theorem sc_comes_from_edge_to_edge : FnScope ["way", "waiting", "part", "found"] ["way"] (defScope (topS 8)) := ⟨rfl, rfl, rfl, by decide +kernel, rfl, by decide +kernel, by decide +kernel⟩
def t_8 : List (Str × Fn) := ("comes_from_edge_to_edge", f_comes_from_edge_to_edge) :: t_7
def ic_count_tree_cuttings_1 : E :=
  (.comp [2] (.nm 2) (.seq (.call f_all_ways (.cons (.v 0) (.cons (.v 1) .nil)))) (.yes (.call f_comes_from_edge_to_edge (.cons (.v 2) .nil))) (.v 2))
def ir_count_tree_cuttings : Ss :=
  (.cons (.ret (.bi .len (.cons ic_count_tree_cuttings_1 .nil)))
  .nil)
def f_count_tree_cuttings : Fn := evDef FUEL 2 3 ir_count_tree_cuttings
theorem cm_count_tree_cuttings : compDef ⟨["m", "n", "way"], fun x => t_8.lookup x, fun x => cst.lookup x⟩ (topS 9) = some ir_count_tree_cuttings := by kernel_rfl
theorem sc_count_tree_cuttings : FnScope ["m", "n", "way"] ["m", "n"] (defScope (topS 9)) := ⟨rfl, rfl, rfl, by decide +kernel, rfl, by decide +kernel, by decide +kernel⟩
def t_9 : List (Str × Fn) := ("count_tree_cuttings", f_count_tree_cuttings) :: t_8
def ib__law_draws_1 : Ss :=
  (.cons (.ite (.cmp .gt (.v 4) (.c (.int 0))) (.cons (.app 2 (.bin .mod (.v 4) (.c (.int 1000003))))
  (.cons (.asgs 4 (.bin .fdiv (.v 4) (.c (.int 1000003))))
  .nil)) .nil)
  .nil)
def ib__law_draws_2 : Ss :=
  (.cons (.asgs 6 (.bin .mod (.bin .add (.bin .add (.bin .add (.bin .mul (.v 6) (.c (.int 69621))) (.bin .fdiv (.v 6) (.c (.int 65536)))) (.bin .mul (.c (.int 13)) (.v 5))) (.c (.int 5))) (.c (.int 2147483629))))
  (.cons (.app 2 (.bin .mod (.bin .fdiv (.v 6) (.c (.int 8))) (.c (.int 1000003))))
  .nil))
def ib__law_draws_3 : Ss :=
  (.cons (.asgs 4 (.bi .abs (.cons (.bi .int (.cons (.v 3) .nil)) .nil)))
  (.cons (.ite (.cmp .ge (.v 4) (.bin .pow (.c (.int 10)) (.c (.int 18)))) (.cons (.for_ (.nm 5) (.rng (.cons (.c (.int 60)) .nil)) ib__law_draws_1)
  .nil) (.cons (.asgs 6 (.bin .mod (.bin .add (.bin .add (.bin .mul (.v 4) (.c (.int 48271))) (.bin .mul (.c (.int 7)) (.bi .len (.cons (.v 2) .nil)))) (.c (.int 11))) (.c (.int 2147483647))))
  (.cons (.for_ (.nm 5) (.rng (.cons (.c (.int 4)) .nil)) ib__law_draws_2)
  .nil)))
  .nil))
def ib__law_draws_4 : Ss :=
  (.cons (.ite (.cmp .lt (.bi .len (.cons (.v 2) .nil)) (.v 1)) (.cons (.asgs 7 (.c (.int 0)))
  (.cons (.ite (.cmp .gt (.bi .len (.cons (.v 2) .nil)) (.c (.int 0))) (.cons (.asgs 7 (.ix (.v 2) (.bin .mod (.v 5) (.bi .len (.cons (.v 2) .nil)))))
  .nil) .nil)
  (.cons (.app 2 (.bin .mod (.bin .add (.bin .add (.bin .mul (.v 7) (.c (.int 16807))) (.bin .mul (.c (.int 31)) (.bi .len (.cons (.v 2) .nil)))) (.c (.int 17))) (.c (.int 1000003))))
  .nil))) .nil)
  .nil)
def ir__law_draws : Ss :=
  (.cons (.asg (.nm 2) (.lst .nil))
  (.cons (.for_ (.nm 3) (.seq (.sl (.v 0) .no (.yes (.c (.int 63))))) ib__law_draws_3)
  (.cons (.for_ (.nm 5) (.rng (.cons (.v 1) .nil)) ib__law_draws_4)
  (.cons (.ret (.sl (.v 2) .no (.yes (.v 1))))
  .nil))))
def f__law_draws : Fn := evDef FUEL 2 8 ir__law_draws
theorem cm__law_draws : compDef ⟨["script", "many", "found", "cell", "number", "k", "mixed", "base"], fun x => t_9.lookup x, fun x => cst.lookup x⟩ (topS 11) = some ir__law_draws := by kernel_rfl
theorem sc__law_draws : FnScope ["script", "many", "found", "cell", "number", "k", "mixed", "base"] ["script", "many"] (defScope (topS 11)) := ⟨rfl, rfl, rfl, by decide +kernel, rfl, by decide +kernel, by decide +kernel⟩
def t_10 : List (Str × Fn) := ("_law_draws", f__law_draws) :: t_9
def ir__law_is_number : Ss :=
  (.cons (.ret (.and (.bi .isInt (.cons (.v 0) .nil)) (.not (.bi .isBool (.cons (.v 0) .nil)))))
  .nil)
def f__law_is_number : Fn := evDef FUEL 1 1 ir__law_is_number
theorem cm__law_is_number : compDef ⟨["value"], fun x => t_10.lookup x, fun x => cst.lookup x⟩ (topS 12) = some ir__law_is_number := by kernel_rfl
theorem sc__law_is_number : FnScope ["value"] ["value"] (defScope (topS 12)) := ⟨rfl, rfl, rfl, by decide +kernel, rfl, by decide +kernel, by decide +kernel⟩
def t_11 : List (Str × Fn) := ("_law_is_number", f__law_is_number) :: t_10
def ib__law_mark_1 : Ss :=
  (.cons (.asgs 5 (.bin .add (.v 5) (.bin .shl (.c (.int 1)) (.bin .add (.bin .add (.bin .mul (.bin .add (.v 2) (.v 6)) (.v 0)) (.v 1)) (.v 7)))))
  .nil)
def ib__law_mark_2 : Ss :=
  (.cons (.for_ (.nm 7) (.rng (.cons (.v 3) .nil)) ib__law_mark_1)
  .nil)
def ir__law_mark : Ss :=
  (.cons (.asgs 5 (.c (.int 0)))
  (.cons (.for_ (.nm 6) (.rng (.cons (.v 4) .nil)) ib__law_mark_2)
  (.cons (.ret (.v 5))
  .nil)))
def f__law_mark : Fn := evDef FUEL 5 8 ir__law_mark
theorem cm__law_mark : compDef ⟨["m", "x", "y", "w", "h", "mark", "row", "column"], fun x => t_11.lookup x, fun x => cst.lookup x⟩ (topS 13) = some ir__law_mark := by kernel_rfl
theorem sc__law_mark : FnScope ["m", "x", "y", "w", "h", "mark", "row", "column"] ["m", "x", "y", "w", "h"] (defScope (topS 13)) := ⟨rfl, rfl, rfl, by decide +kernel, rfl, by decide +kernel, by decide +kernel⟩
def t_12 : List (Str × Fn) := ("_law_mark", f__law_mark) :: t_11
def ic__law_ways_1 : E :=
  (.comp [7] (.nm 7) (.rng (.cons (.bin .mul (.v 0) (.v 1)) .nil)) (.yes (.cmp .eq (.bin .band (.bin .shr (.v 4) (.v 7)) (.c (.int 1))) (.c (.int 0)))) (.v 7))
def ib__law_ways_2 : Ss :=
  (.cons (.asgs 12 (.call f__law_mark (.cons (.v 0) (.cons (.v 8) (.cons (.v 9) (.cons (.v 10) (.cons (.v 11) .nil)))))))
  (.cons (.ite (.cmp .eq (.bin .band (.v 4) (.v 12)) (.c (.int 0))) (.cons (.app 3 (.tup (.cons (.bin .add (.v 4) (.v 12)) (.cons (.bin .add (.v 5) (.lst (.cons (.tup (.cons (.v 9) (.cons (.v 8) (.cons (.v 11) (.cons (.v 10) .nil))))) .nil))) .nil))))
  .nil) .nil)
  .nil))
def ib__law_ways_3 : Ss :=
  (.cons (.for_ (.nm 11) (.rng (.cons (.c (.int 1)) (.cons (.bin .add (.bin .sub (.v 1) (.v 9)) (.c (.int 1))) .nil))) ib__law_ways_2)
  .nil)
def ib__law_ways_4 : Ss :=
  (.cons (.pop (.two (.nm 4) (.nm 5)) 3)
  (.cons (.asgs 6 ic__law_ways_1)
  (.cons (.ite (.cmp .eq (.v 6) (.lst .nil)) (.cons (.app 2 (.v 5))
  .nil) (.cons (.par 8 9 (.bin .mod (.ix (.v 6) (.c (.int 0))) (.v 0)) (.bin .fdiv (.ix (.v 6) (.c (.int 0))) (.v 0)))
  (.cons (.for_ (.nm 10) (.rng (.cons (.c (.int 1)) (.cons (.bin .add (.bin .sub (.v 0) (.v 8)) (.c (.int 1))) .nil))) ib__law_ways_3)
  .nil)))
  .nil)))
def iw__law_ways_4 : E :=
  (.cmp .ne (.v 3) (.lst .nil))
def ic__law_ways_5 : E :=
  (.comp [5] (.nm 5) (.seq (.v 2)) .no (.bi .sorted (.cons (.v 5) .nil)))
def ir__law_ways : Ss :=
  (.cons (.asg (.nm 2) (.lst .nil))
  (.cons (.asg (.nm 3) (.lst (.cons (.tup (.cons (.c (.int 0)) (.cons (.lst .nil) .nil))) .nil)))
  (.cons (.while_ iw__law_ways_4 ib__law_ways_4)
  (.cons (.ret (.bi .sorted (.cons ic__law_ways_5 .nil)))
  .nil))))
def f__law_ways : Fn := evDef FUEL 2 13 ir__law_ways
theorem cm__law_ways : compDef ⟨["m", "n", "found", "waiting", "filled", "way", "empty", "at", "x", "y", "w", "h", "mark"], fun x => t_12.lookup x, fun x => cst.lookup x⟩ (topS 14) = some ir__law_ways := by kernel_rfl
theorem sc__law_ways : FnScope ["m", "n", "found", "waiting", "filled", "way", "empty", "at", "x", "y", "w", "h", "mark"] ["m", "n"] (defScope (topS 14)) := ⟨rfl, rfl, rfl, by decide +kernel, rfl, by decide +kernel, by decide +kernel⟩
def t_13 : List (Str × Fn) := ("_law_ways", f__law_ways) :: t_12
def ic__law_comes_1 : E :=
  (.comp [6] (.nm 6) (.seq (.v 2)) .no (.ix (.v 6) (.v 4)))
def ic__law_comes_2 : E :=
  (.comp [6] (.nm 6) (.seq (.v 2)) (.yes (.and (.cmp .lt (.ix (.v 6) (.v 4)) (.v 5)) (.cmp .gt (.bin .add (.ix (.v 6) (.v 4)) (.ix (.v 6) (.bin .add (.v 4) (.c (.int 2))))) (.v 5)))) (.v 6))
def ib__law_comes_3 : Ss :=
  (.cons (.ite (.cmp .eq ic__law_comes_2 (.lst .nil)) (.cons (.asgs 3 (.tup (.cons (.v 4) (.cons (.v 5) .nil))))
  .nil) .nil)
  .nil)
def ib__law_comes_4 : Ss :=
  (.cons (.for_ (.nm 5) (.seq (.sl (.bi .sortedSet (.cons ic__law_comes_1 .nil)) (.yes (.c (.int 1))) .no)) ib__law_comes_3)
  .nil)
def ic__law_comes_5 : E :=
  (.comp [6] (.nm 6) (.seq (.v 2)) (.yes (.cmp .lt (.ix (.v 6) (.ix (.v 3) (.c (.int 0)))) (.ix (.v 3) (.c (.int 1))))) (.v 6))
def ic__law_comes_6 : E :=
  (.comp [6] (.nm 6) (.seq (.v 2)) (.yes (.cmp .ge (.ix (.v 6) (.ix (.v 3) (.c (.int 0)))) (.ix (.v 3) (.c (.int 1))))) (.v 6))
def ib__law_comes_7 : Ss :=
  (.cons (.pop (.nm 2) 1)
  (.cons (.asgs 3 (.c .none))
  (.cons (.for_ (.nm 4) (.rng (.cons (.c (.int 2)) .nil)) ib__law_comes_4)
  (.cons (.ite (.and (.cmp .gt (.bi .len (.cons (.v 2) .nil)) (.c (.int 1))) (.cmp .isn (.v 3) (.c .none))) (.cons (.ret (.c (.bool false)))
  .nil) .nil)
  (.cons (.ite (.cmp .gt (.bi .len (.cons (.v 2) .nil)) (.c (.int 1))) (.cons (.asg (.nm 1) (.bin .add (.v 1) (.lst (.cons ic__law_comes_5 (.cons ic__law_comes_6 .nil)))))
  .nil) .nil)
  .nil)))))
def iw__law_comes_7 : E :=
  (.cmp .ne (.v 1) (.lst .nil))
def ir__law_comes : Ss :=
  (.cons (.asg (.nm 1) (.lst (.cons (.v 0) .nil)))
  (.cons (.while_ iw__law_comes_7 ib__law_comes_7)
  (.cons (.ret (.c (.bool true)))
  .nil)))
def f__law_comes : Fn := evDef FUEL 1 7 ir__law_comes
theorem cm__law_comes : compDef ⟨["way", "parts", "part", "cut", "side", "line", "box"], fun x => t_13.lookup x, fun x => cst.lookup x⟩ (topS 15) = some ir__law_comes := by kernel_rfl
theorem sc__law_comes : FnScope ["way", "parts", "part", "cut", "side", "line", "box"] ["way"] (defScope (topS 15)) := ⟨rfl, rfl, rfl, by decide +kernel, rfl, by decide +kernel, by decide +kernel⟩
def t_14 : List (Str × Fn) := ("_law_comes", f__law_comes) :: t_13
def ic__law_told_1 : E :=
  (.comp [4] (.nm 4) (.seq (.v 2)) (.yes (.call f__law_comes (.cons (.v 4) .nil))) (.v 4))
def ir__law_told : Ss :=
  (.cons (.asgs 3 (.bi .len (.cons ic__law_told_1 .nil)))
  (.cons (.asgs 5 (.call f_count_tree_cuttings (.cons (.v 0) (.cons (.v 1) .nil))))
  (.cons (.ret (.and (.call f__law_is_number (.cons (.v 5) .nil)) (.and (.cmp .eq (.v 5) (.v 3)) (.or (.cmp .gt (.bi .min (.cons (.v 0) (.cons (.v 1) .nil))) (.c (.int 2))) (.cmp .eq (.v 3) (.bi .len (.cons (.v 2) .nil)))))))
  .nil)))
def f__law_told : Fn := evDef FUEL 3 6 ir__law_told
theorem cm__law_told : compDef ⟨["m", "n", "ways", "due", "way", "told"], fun x => t_14.lookup x, fun x => cst.lookup x⟩ (topS 16) = some ir__law_told := by kernel_rfl
theorem sc__law_told : FnScope ["m", "n", "ways", "due", "way", "told"] ["m", "n", "ways"] (defScope (topS 16)) := ⟨rfl, rfl, rfl, by decide +kernel, rfl, by decide +kernel, by decide +kernel⟩
def t_15 : List (Str × Fn) := ("_law_told", f__law_told) :: t_14
def ir_law : Ss :=
  (.cons (.asgs 1 (.call f__law_draws (.cons (.v 0) (.cons (.c (.int 20)) .nil))))
  (.cons (.asgs 2 (.lst (.cons (.tup (.cons (.c (.int 1)) (.cons (.c (.int 1)) .nil))) (.cons (.tup (.cons (.c (.int 1)) (.cons (.c (.int 3)) .nil))) (.cons (.tup (.cons (.c (.int 2)) (.cons (.c (.int 1)) .nil))) (.cons (.tup (.cons (.c (.int 2)) (.cons (.c (.int 2)) .nil))) (.cons (.tup (.cons (.c (.int 2)) (.cons (.c (.int 3)) .nil))) (.cons (.tup (.cons (.c (.int 3)) (.cons (.c (.int 2)) .nil))) (.cons (.tup (.cons (.c (.int 1)) (.cons (.c (.int 5)) .nil))) (.cons (.tup (.cons (.c (.int 5)) (.cons (.c (.int 1)) .nil))) (.cons (.tup (.cons (.c (.int 2)) (.cons (.c (.int 4)) .nil))) (.cons (.tup (.cons (.c (.int 4)) (.cons (.c (.int 2)) .nil))) (.cons (.tup (.cons (.c (.int 1)) (.cons (.c (.int 6)) .nil))) (.cons (.tup (.cons (.c (.int 6)) (.cons (.c (.int 1)) .nil))) .nil))))))))))))))
  (.cons (.asg (.two (.nm 3) (.nm 4)) (.ix (.v 2) (.bin .mod (.ix (.v 1) (.c (.int 0))) (.c (.int 12)))))
  (.cons (.ite (.cmp .eq (.bin .mod (.ix (.v 1) (.c (.int 1))) (.c (.int 96))) (.c (.int 6))) (.cons (.asg (.two (.nm 3) (.nm 4)) (.ix (.lst (.cons (.tup (.cons (.c (.int 3)) (.cons (.c (.int 4)) .nil))) (.cons (.tup (.cons (.c (.int 4)) (.cons (.c (.int 3)) .nil))) (.cons (.tup (.cons (.c (.int 2)) (.cons (.c (.int 5)) .nil))) (.cons (.tup (.cons (.c (.int 5)) (.cons (.c (.int 2)) .nil))) .nil))))) (.bin .mod (.ix (.v 1) (.c (.int 2))) (.c (.int 4)))))
  .nil) .nil)
  (.cons (.ite (.or (.not (.call f__law_told (.cons (.v 3) (.cons (.v 4) (.cons (.call f__law_ways (.cons (.v 3) (.cons (.v 4) .nil))) .nil))))) (.cmp .ne (.call f_count_tree_cuttings (.cons (.v 4) (.cons (.v 3) .nil))) (.call f_count_tree_cuttings (.cons (.v 3) (.cons (.v 4) .nil))))) (.cons (.ret (.c (.bool false)))
  .nil) .nil)
  (.cons (.ite (.and (.cmp .eq (.bin .mod (.ix (.v 1) (.c (.int 1))) (.c (.int 12))) (.c (.int 5))) (.or (.not (.call f__law_told (.cons (.c (.int 3)) (.cons (.c (.int 3)) (.cons (.call f__law_ways (.cons (.c (.int 3)) (.cons (.c (.int 3)) .nil))) .nil))))) (.cmp .ne (.call f_count_tree_cuttings (.cons (.c (.int 3)) (.cons (.c (.int 3)) .nil))) (.c (.int 320))))) (.cons (.ret (.c (.bool false)))
  .nil) .nil)
  (.cons (.asgs 5 (.bin .add (.c (.int 1)) (.bin .mod (.ix (.v 1) (.c (.int 3))) (.c (.int 8)))))
  (.cons (.ite (.cmp .eq (.bin .mod (.ix (.v 1) (.c (.int 1))) (.c (.int 24))) (.c (.int 7))) (.cons (.asgs 5 (.bin .add (.c (.int 9)) (.bin .mod (.ix (.v 1) (.c (.int 3))) (.c (.int 3)))))
  .nil) .nil)
  (.cons (.ret (.and (.cmp .eq (.call f_count_tree_cuttings (.cons (.v 5) (.cons (.c (.int 1)) .nil))) (.bin .shl (.c (.int 1)) (.bin .sub (.v 5) (.c (.int 1))))) (.and (.cmp .eq (.call f_count_tree_cuttings (.cons (.c (.int 1)) (.cons (.v 5) .nil))) (.bin .shl (.c (.int 1)) (.bin .sub (.v 5) (.c (.int 1))))) (.cmp .eq (.call f_count_tree_cuttings (.cons (.c (.int 2)) (.cons (.c (.int 2)) .nil))) (.c (.int 8))))))
  .nil)))))))))
def f_law : Fn := evDef FUEL 1 6 ir_law
theorem cm_law : compDef ⟨["script", "draws", "pairs", "m", "n", "long"], fun x => t_15.lookup x, fun x => cst.lookup x⟩ (topS 17) = some ir_law := by kernel_rfl
theorem sc_law : FnScope ["script", "draws", "pairs", "m", "n", "long"] ["script"] (defScope (topS 17)) := ⟨rfl, rfl, rfl, by decide +kernel, rfl, by decide +kernel, by decide +kernel⟩
end K88

set_option Elab.async false
set_option linter.all false
set_option maxRecDepth 100000
set_option maxHeartbeats 4000000
namespace K88
open PySem L2 PV
/-- the first empty cell -/
def emp (filled a : Nat) : Bool := filled / 2 ^ a &&& 1 == 0
def fe (cells filled : Nat) : Option Nat := (List.range cells).find? (emp filled)
theorem emp_of {filled a : Nat} : decide (filled / 2 ^ a &&& 1 = 0) = emp filled a := by unfold emp; rfl
theorem fe_body {m cells filled x : Nat} (hm : 0 < m) (hm2 : m < 2 ^ 64) : evSs FUEL ib_first_empty_1 [sN m, sN cells, sN filled, sN x] = if emp filled x then some (.rt (false, .tuple [N (x % m), N (x / m)])) else some (.nx [sN m, sN cells, sN filled, sN x]) := by
  simp only [q_wipeR_1, q_wipeR_2, q_asg_1, q_asg_2, q_asg_3, q_asg_4, q_asgR_1, q_ownedArg_1, q_ownedArgs_1, q_ownedArgs_2, q_itemsOf_1, q_itemsOf_2, q_evE_1, q_evE_2, q_evE_3, q_evE_4, q_evE_5, q_evE_6, q_evE_7, q_evE_8, q_evE_9, q_evE_10, q_evE_11, q_evE_12, q_evE_13, q_evE_14, q_evE_15, q_evE_16, q_evE_17, q_evE_18, q_evE_19, q_evE_20, q_evEs_1, q_evEs_2, q_evP_1, q_evP_2, q_evC_1, q_evC_2, q_evI_1, q_evI_2, q_evRet_1, q_evS_1, q_evS_2, q_evS_3, q_evS_4, q_evS_5, q_evS_6, q_evS_7, q_evS_8, q_evS_9, q_evS_10, q_evS_11, q_evS_12, q_evS_13, q_evS_14, q_evS_15, q_evS_16, q_evSs_1, q_evSs_2, q_oa_0, q_rt_0, q_oa_1, q_rt_1, q_oa_2, q_rt_2, q_oa_3, q_rt_3, q_oa_4, q_rt_4, q_oa_5, q_rt_5, q_oa_6, q_rt_6, q_oa_7, q_rt_7, q_oa_8, q_rt_8, q_oa_9, q_rt_9, q_oa_10, q_rt_10, q_oa_11, q_rt_11, q_oa_12, q_rt_12, q_oa_13, q_rt_13, q_oa_14, q_rt_14, q_oa_15, q_rt_15, q_oa_16, q_rt_16, q_oa_17, q_rt_17, q_ar_0, q_ar_1, q_ar_2, asI_N, asI_i, q_l2, q_l3, q_l4, q_l5, q_l6, q_l7, q_l8, q_l9, q_l10, q_l11, q_l12, q_l13, q_ret, q_bind, q_bindn, q_map, q_mapn, q_one, q_zero, q_evT, q_own, evNeg, startR, List.getElem?_cons_succ, List.getElem?_cons_zero, List.set_cons_succ, List.set_cons_zero, List.map_cons, List.map_nil, List.replicate, List.length_cons, List.length_nil, List.append_eq, List.nil_append, List.cons_append, Bool.and_true, Bool.true_and, Bool.and_false, Bool.false_and, Bool.not_true, Bool.not_false, if_true, if_false, reduceCtorEq, Nat.reduceSub, Nat.reduceAdd, Nat.reduceLeDiff, Bool.false_eq_true, Bool.or_false, Bool.false_or, ite_true, ite_false, n_add, lenOk_0, lenOk_1, lenOk_2, lenOk_3, lenOk_4, lenOk_5, lenOk_6, lenOk_7, lenOk_8, ib_first_empty_1, n_shr, n_band, n_eq, emp_of]
  cases emp filled x <;> simp only [q_wipeR_1, q_wipeR_2, q_asg_1, q_asg_2, q_asg_3, q_asg_4, q_asgR_1, q_ownedArg_1, q_ownedArgs_1, q_ownedArgs_2, q_itemsOf_1, q_itemsOf_2, q_evE_1, q_evE_2, q_evE_3, q_evE_4, q_evE_5, q_evE_6, q_evE_7, q_evE_8, q_evE_9, q_evE_10, q_evE_11, q_evE_12, q_evE_13, q_evE_14, q_evE_15, q_evE_16, q_evE_17, q_evE_18, q_evE_19, q_evE_20, q_evEs_1, q_evEs_2, q_evP_1, q_evP_2, q_evC_1, q_evC_2, q_evI_1, q_evI_2, q_evRet_1, q_evS_1, q_evS_2, q_evS_3, q_evS_4, q_evS_5, q_evS_6, q_evS_7, q_evS_8, q_evS_9, q_evS_10, q_evS_11, q_evS_12, q_evS_13, q_evS_14, q_evS_15, q_evS_16, q_evSs_1, q_evSs_2, q_oa_0, q_rt_0, q_oa_1, q_rt_1, q_oa_2, q_rt_2, q_oa_3, q_rt_3, q_oa_4, q_rt_4, q_oa_5, q_rt_5, q_oa_6, q_rt_6, q_oa_7, q_rt_7, q_oa_8, q_rt_8, q_oa_9, q_rt_9, q_oa_10, q_rt_10, q_oa_11, q_rt_11, q_oa_12, q_rt_12, q_oa_13, q_rt_13, q_oa_14, q_rt_14, q_oa_15, q_rt_15, q_oa_16, q_rt_16, q_oa_17, q_rt_17, q_ar_0, q_ar_1, q_ar_2, asI_N, asI_i, q_l2, q_l3, q_l4, q_l5, q_l6, q_l7, q_l8, q_l9, q_l10, q_l11, q_l12, q_l13, q_ret, q_bind, q_bindn, q_map, q_mapn, q_one, q_zero, q_evT, q_own, evNeg, startR, List.getElem?_cons_succ, List.getElem?_cons_zero, List.set_cons_succ, List.set_cons_zero, List.map_cons, List.map_nil, List.replicate, List.length_cons, List.length_nil, List.append_eq, List.nil_append, List.cons_append, Bool.and_true, Bool.true_and, Bool.and_false, Bool.false_and, Bool.not_true, Bool.not_false, if_true, if_false, reduceCtorEq, Nat.reduceSub, Nat.reduceAdd, Nat.reduceLeDiff, Bool.false_eq_true, Bool.or_false, Bool.false_or, ite_true, ite_false, n_add, lenOk_0, lenOk_1, lenOk_2, lenOk_3, lenOk_4, lenOk_5, lenOk_6, lenOk_7, lenOk_8, n_mod hm, n_div hm hm2]
theorem fe_loop {m cells filled : Nat} (hm : 0 < m) (hm2 : m < 2 ^ 64) : ∀ (l : List Nat) (j : Option R), (∃ j', forGo (.nm 3) (blk FUEL ib_first_empty_1) (l.map N) [sN m, sN cells, sN filled, j] = match l.find? (emp filled) with
    | some a => some (.rt (false, .tuple [N (a % m), N (a / m)]))
    | none => some (.nx [sN m, sN cells, sN filled, j']))
  | [], j => ⟨j, rfl⟩
  | x :: l, j => by
    obtain ⟨j', ih⟩ := fe_loop (cells := cells) (filled := filled) hm hm2 l (sN x)
    refine ⟨j', ?_⟩
    have e := fe_body (m := m) (cells := cells) (filled := filled) (x := x) hm hm2
    rw [List.map_cons, List.find?_cons]
    cases he : emp filled x with
    | false => rw [he] at e; exact (fr_nx (ρ1 := [sN m, sN cells, sN filled, sN x]) rfl e).trans ih
    | true => rw [he] at e; exact fr_rt (ρ1 := [sN m, sN cells, sN filled, sN x]) rfl e
theorem first_empty_is {m cells filled : Nat} (hm : 0 < m) (hm2 : m < 2 ^ 64) (hc : cells ≤ 1000000) : f_first_empty [N m, N cells, N filled] = match fe cells filled with
    | some a => some (false, .tuple [N (a % m), N (a / m)])
    | none => some (false, .none) := by
  obtain ⟨j', e⟩ := fe_loop (cells := cells) (filled := filled) hm hm2 (List.range cells) none
  unfold f_first_empty evDef ir_first_empty
  simp only [q_wipeR_1, q_wipeR_2, q_asg_1, q_asg_2, q_asg_3, q_asg_4, q_asgR_1, q_ownedArg_1, q_ownedArgs_1, q_ownedArgs_2, q_itemsOf_1, q_itemsOf_2, q_evE_1, q_evE_2, q_evE_3, q_evE_4, q_evE_5, q_evE_6, q_evE_7, q_evE_8, q_evE_9, q_evE_10, q_evE_11, q_evE_12, q_evE_13, q_evE_14, q_evE_15, q_evE_16, q_evE_17, q_evE_18, q_evE_19, q_evE_20, q_evEs_1, q_evEs_2, q_evP_1, q_evP_2, q_evC_1, q_evC_2, q_evI_1, q_evI_2, q_evRet_1, q_evS_1, q_evS_2, q_evS_3, q_evS_4, q_evS_5, q_evS_6, q_evS_7, q_evS_8, q_evS_9, q_evS_10, q_evS_11, q_evS_12, q_evS_13, q_evS_14, q_evS_15, q_evS_16, q_evSs_1, q_evSs_2, q_oa_0, q_rt_0, q_oa_1, q_rt_1, q_oa_2, q_rt_2, q_oa_3, q_rt_3, q_oa_4, q_rt_4, q_oa_5, q_rt_5, q_oa_6, q_rt_6, q_oa_7, q_rt_7, q_oa_8, q_rt_8, q_oa_9, q_rt_9, q_oa_10, q_rt_10, q_oa_11, q_rt_11, q_oa_12, q_rt_12, q_oa_13, q_rt_13, q_oa_14, q_rt_14, q_oa_15, q_rt_15, q_oa_16, q_rt_16, q_oa_17, q_rt_17, q_ar_0, q_ar_1, q_ar_2, asI_N, asI_i, q_l2, q_l3, q_l4, q_l5, q_l6, q_l7, q_l8, q_l9, q_l10, q_l11, q_l12, q_l13, q_ret, q_bind, q_bindn, q_map, q_mapn, q_one, q_zero, q_evT, q_own, evNeg, startR, List.getElem?_cons_succ, List.getElem?_cons_zero, List.set_cons_succ, List.set_cons_zero, List.map_cons, List.map_nil, List.replicate, List.length_cons, List.length_nil, List.append_eq, List.nil_append, List.cons_append, Bool.and_true, Bool.true_and, Bool.and_false, Bool.false_and, Bool.not_true, Bool.not_false, if_true, if_false, reduceCtorEq, Nat.reduceSub, Nat.reduceAdd, Nat.reduceLeDiff, Bool.false_eq_true, Bool.or_false, Bool.false_or, ite_true, ite_false, n_add, lenOk_0, lenOk_1, lenOk_2, lenOk_3, lenOk_4, lenOk_5, lenOk_6, lenOk_7, lenOk_8, n_rng1 hc]
  rw [e]
  unfold fe
  cases (List.range cells).find? (emp filled) <;> simp only [q_wipeR_1, q_wipeR_2, q_asg_1, q_asg_2, q_asg_3, q_asg_4, q_asgR_1, q_ownedArg_1, q_ownedArgs_1, q_ownedArgs_2, q_itemsOf_1, q_itemsOf_2, q_evE_1, q_evE_2, q_evE_3, q_evE_4, q_evE_5, q_evE_6, q_evE_7, q_evE_8, q_evE_9, q_evE_10, q_evE_11, q_evE_12, q_evE_13, q_evE_14, q_evE_15, q_evE_16, q_evE_17, q_evE_18, q_evE_19, q_evE_20, q_evEs_1, q_evEs_2, q_evP_1, q_evP_2, q_evC_1, q_evC_2, q_evI_1, q_evI_2, q_evRet_1, q_evS_1, q_evS_2, q_evS_3, q_evS_4, q_evS_5, q_evS_6, q_evS_7, q_evS_8, q_evS_9, q_evS_10, q_evS_11, q_evS_12, q_evS_13, q_evS_14, q_evS_15, q_evS_16, q_evSs_1, q_evSs_2, q_oa_0, q_rt_0, q_oa_1, q_rt_1, q_oa_2, q_rt_2, q_oa_3, q_rt_3, q_oa_4, q_rt_4, q_oa_5, q_rt_5, q_oa_6, q_rt_6, q_oa_7, q_rt_7, q_oa_8, q_rt_8, q_oa_9, q_rt_9, q_oa_10, q_rt_10, q_oa_11, q_rt_11, q_oa_12, q_rt_12, q_oa_13, q_rt_13, q_oa_14, q_rt_14, q_oa_15, q_rt_15, q_oa_16, q_rt_16, q_oa_17, q_rt_17, q_ar_0, q_ar_1, q_ar_2, asI_N, asI_i, q_l2, q_l3, q_l4, q_l5, q_l6, q_l7, q_l8, q_l9, q_l10, q_l11, q_l12, q_l13, q_ret, q_bind, q_bindn, q_map, q_mapn, q_one, q_zero, q_evT, q_own, evNeg, startR, List.getElem?_cons_succ, List.getElem?_cons_zero, List.set_cons_succ, List.set_cons_zero, List.map_cons, List.map_nil, List.replicate, List.length_cons, List.length_nil, List.append_eq, List.nil_append, List.cons_append, Bool.and_true, Bool.true_and, Bool.and_false, Bool.false_and, Bool.not_true, Bool.not_false, if_true, if_false, reduceCtorEq, Nat.reduceSub, Nat.reduceAdd, Nat.reduceLeDiff, Bool.false_eq_true, Bool.or_false, Bool.false_or, ite_true, ite_false, n_add, lenOk_0, lenOk_1, lenOk_2, lenOk_3, lenOk_4, lenOk_5, lenOk_6, lenOk_7, lenOk_8]
/-- a mark -/
def mk (m x y w h : Nat) : Nat := ((List.range' y h).flatMap fun row => (List.range' x w).map fun col => 1 * 2 ^ (row * m + col)).sum
theorem mark_of_is {m x y w h : Nat} (hm : m ≤ 100) (hx : x + w ≤ 100) (hy : y + h ≤ 100) : f_mark_of [N m, N x, N y, N w, N h] = some (false, N (mk m x y w h)) := by
  have e : evE ic_mark_of_1 true [sN m, sN x, sN y, sN w, sN h, none, none] = some (true, .list (((List.range' y h).flatMap fun row => (List.range' x w).map fun col => 1 * 2 ^ (row * m + col)).map N)) := by
    unfold ic_mark_of_1
    simp only [q_wipeR_1, q_wipeR_2, q_asg_1, q_asg_2, q_asg_3, q_asg_4, q_asgR_1, q_ownedArg_1, q_ownedArgs_1, q_ownedArgs_2, q_itemsOf_1, q_itemsOf_2, q_evE_1, q_evE_2, q_evE_3, q_evE_4, q_evE_5, q_evE_6, q_evE_7, q_evE_8, q_evE_9, q_evE_10, q_evE_11, q_evE_12, q_evE_13, q_evE_14, q_evE_15, q_evE_16, q_evE_17, q_evE_18, q_evE_19, q_evE_20, q_evEs_1, q_evEs_2, q_evP_1, q_evP_2, q_evC_1, q_evC_2, q_evI_1, q_evI_2, q_evRet_1, q_evS_1, q_evS_2, q_evS_3, q_evS_4, q_evS_5, q_evS_6, q_evS_7, q_evS_8, q_evS_9, q_evS_10, q_evS_11, q_evS_12, q_evS_13, q_evS_14, q_evS_15, q_evS_16, q_evSs_1, q_evSs_2, q_oa_0, q_rt_0, q_oa_1, q_rt_1, q_oa_2, q_rt_2, q_oa_3, q_rt_3, q_oa_4, q_rt_4, q_oa_5, q_rt_5, q_oa_6, q_rt_6, q_oa_7, q_rt_7, q_oa_8, q_rt_8, q_oa_9, q_rt_9, q_oa_10, q_rt_10, q_oa_11, q_rt_11, q_oa_12, q_rt_12, q_oa_13, q_rt_13, q_oa_14, q_rt_14, q_oa_15, q_rt_15, q_oa_16, q_rt_16, q_oa_17, q_rt_17, q_ar_0, q_ar_1, q_ar_2, asI_N, asI_i, q_l2, q_l3, q_l4, q_l5, q_l6, q_l7, q_l8, q_l9, q_l10, q_l11, q_l12, q_l13, q_ret, q_bind, q_bindn, q_map, q_mapn, q_one, q_zero, q_evT, q_own, evNeg, startR, List.getElem?_cons_succ, List.getElem?_cons_zero, List.set_cons_succ, List.set_cons_zero, List.map_cons, List.map_nil, List.replicate, List.length_cons, List.length_nil, List.append_eq, List.nil_append, List.cons_append, Bool.and_true, Bool.true_and, Bool.and_false, Bool.false_and, Bool.not_true, Bool.not_false, if_true, if_false, reduceCtorEq, Nat.reduceSub, Nat.reduceAdd, Nat.reduceLeDiff, Bool.false_eq_true, Bool.or_false, Bool.false_or, ite_true, ite_false, n_add, lenOk_0, lenOk_1, lenOk_2, lenOk_3, lenOk_4, lenOk_5, lenOk_6, lenOk_7, lenOk_8, n_rng2 (show y ≤ 1000000 by omega) (show y + h ≤ 1000000 by omega), Nat.add_sub_cancel_left]
    rw [compGo2_map (en2 := N) (fun row => (List.range' x w).map fun col => 1 * 2 ^ (row * m + col))]
    · have hl : ((List.range' y h).flatMap fun row => (List.range' x w).map fun col => 1 * 2 ^ (row * m + col)).length = h * w := by
        rw [List.length_flatMap]
        simp only [List.length_map, List.length_range']
        rw [sum_const, List.length_range']
      rw [Option.bind_some, List.length_map, hl]
      have : h * w ≤ 100 * 100 := Nat.mul_le_mul (by omega) (by omega)
      rw [if_pos (lenOk_of (by omega))]
    · intro row hr
      rw [List.mem_range'_1] at hr
      simp only [q_wipeR_1, q_wipeR_2, q_asg_1, q_asg_2, q_asg_3, q_asg_4, q_asgR_1, q_ownedArg_1, q_ownedArgs_1, q_ownedArgs_2, q_itemsOf_1, q_itemsOf_2, q_evE_1, q_evE_2, q_evE_3, q_evE_4, q_evE_5, q_evE_6, q_evE_7, q_evE_8, q_evE_9, q_evE_10, q_evE_11, q_evE_12, q_evE_13, q_evE_14, q_evE_15, q_evE_16, q_evE_17, q_evE_18, q_evE_19, q_evE_20, q_evEs_1, q_evEs_2, q_evP_1, q_evP_2, q_evC_1, q_evC_2, q_evI_1, q_evI_2, q_evRet_1, q_evS_1, q_evS_2, q_evS_3, q_evS_4, q_evS_5, q_evS_6, q_evS_7, q_evS_8, q_evS_9, q_evS_10, q_evS_11, q_evS_12, q_evS_13, q_evS_14, q_evS_15, q_evS_16, q_evSs_1, q_evSs_2, q_oa_0, q_rt_0, q_oa_1, q_rt_1, q_oa_2, q_rt_2, q_oa_3, q_rt_3, q_oa_4, q_rt_4, q_oa_5, q_rt_5, q_oa_6, q_rt_6, q_oa_7, q_rt_7, q_oa_8, q_rt_8, q_oa_9, q_rt_9, q_oa_10, q_rt_10, q_oa_11, q_rt_11, q_oa_12, q_rt_12, q_oa_13, q_rt_13, q_oa_14, q_rt_14, q_oa_15, q_rt_15, q_oa_16, q_rt_16, q_oa_17, q_rt_17, q_ar_0, q_ar_1, q_ar_2, asI_N, asI_i, q_l2, q_l3, q_l4, q_l5, q_l6, q_l7, q_l8, q_l9, q_l10, q_l11, q_l12, q_l13, q_ret, q_bind, q_bindn, q_map, q_mapn, q_one, q_zero, q_evT, q_own, evNeg, startR, List.getElem?_cons_succ, List.getElem?_cons_zero, List.set_cons_succ, List.set_cons_zero, List.map_cons, List.map_nil, List.replicate, List.length_cons, List.length_nil, List.append_eq, List.nil_append, List.cons_append, Bool.and_true, Bool.true_and, Bool.and_false, Bool.false_and, Bool.not_true, Bool.not_false, if_true, if_false, reduceCtorEq, Nat.reduceSub, Nat.reduceAdd, Nat.reduceLeDiff, Bool.false_eq_true, Bool.or_false, Bool.false_or, ite_true, ite_false, n_add, lenOk_0, lenOk_1, lenOk_2, lenOk_3, lenOk_4, lenOk_5, lenOk_6, lenOk_7, lenOk_8, n_rng2 (show x ≤ 1000000 by omega) (show x + w ≤ 1000000 by omega), Nat.add_sub_cancel_left]
      rw [compGo_map (en2 := N) (fun col => some (1 * 2 ^ (row * m + col))), filterMap_some]
      intro col hc
      rw [List.mem_range'_1] at hc
      have hb : row * m ≤ 100 * 100 := Nat.mul_le_mul (by omega) hm
      simp only [q_wipeR_1, q_wipeR_2, q_asg_1, q_asg_2, q_asg_3, q_asg_4, q_asgR_1, q_ownedArg_1, q_ownedArgs_1, q_ownedArgs_2, q_itemsOf_1, q_itemsOf_2, q_evE_1, q_evE_2, q_evE_3, q_evE_4, q_evE_5, q_evE_6, q_evE_7, q_evE_8, q_evE_9, q_evE_10, q_evE_11, q_evE_12, q_evE_13, q_evE_14, q_evE_15, q_evE_16, q_evE_17, q_evE_18, q_evE_19, q_evE_20, q_evEs_1, q_evEs_2, q_evP_1, q_evP_2, q_evC_1, q_evC_2, q_evI_1, q_evI_2, q_evRet_1, q_evS_1, q_evS_2, q_evS_3, q_evS_4, q_evS_5, q_evS_6, q_evS_7, q_evS_8, q_evS_9, q_evS_10, q_evS_11, q_evS_12, q_evS_13, q_evS_14, q_evS_15, q_evS_16, q_evSs_1, q_evSs_2, q_oa_0, q_rt_0, q_oa_1, q_rt_1, q_oa_2, q_rt_2, q_oa_3, q_rt_3, q_oa_4, q_rt_4, q_oa_5, q_rt_5, q_oa_6, q_rt_6, q_oa_7, q_rt_7, q_oa_8, q_rt_8, q_oa_9, q_rt_9, q_oa_10, q_rt_10, q_oa_11, q_rt_11, q_oa_12, q_rt_12, q_oa_13, q_rt_13, q_oa_14, q_rt_14, q_oa_15, q_rt_15, q_oa_16, q_rt_16, q_oa_17, q_rt_17, q_ar_0, q_ar_1, q_ar_2, asI_N, asI_i, q_l2, q_l3, q_l4, q_l5, q_l6, q_l7, q_l8, q_l9, q_l10, q_l11, q_l12, q_l13, q_ret, q_bind, q_bindn, q_map, q_mapn, q_one, q_zero, q_evT, q_own, evNeg, startR, List.getElem?_cons_succ, List.getElem?_cons_zero, List.set_cons_succ, List.set_cons_zero, List.map_cons, List.map_nil, List.replicate, List.length_cons, List.length_nil, List.append_eq, List.nil_append, List.cons_append, Bool.and_true, Bool.true_and, Bool.and_false, Bool.false_and, Bool.not_true, Bool.not_false, if_true, if_false, reduceCtorEq, Nat.reduceSub, Nat.reduceAdd, Nat.reduceLeDiff, Bool.false_eq_true, Bool.or_false, Bool.false_or, ite_true, ite_false, n_add, lenOk_0, lenOk_1, lenOk_2, lenOk_3, lenOk_4, lenOk_5, lenOk_6, lenOk_7, lenOk_8, n_mul (show row < 2 ^ 64 by omega) (show m < 2 ^ 64 by omega), n_shl (show 1 < 2 ^ 64 by omega) (show row * m + col ≤ 1000000 by omega)]
  unfold f_mark_of evDef ir_mark_of
  simp only [q_wipeR_1, q_wipeR_2, q_asg_1, q_asg_2, q_asg_3, q_asg_4, q_asgR_1, q_ownedArg_1, q_ownedArgs_1, q_ownedArgs_2, q_itemsOf_1, q_itemsOf_2, q_evE_1, q_evE_2, q_evE_3, q_evE_4, q_evE_5, q_evE_6, q_evE_7, q_evE_8, q_evE_9, q_evE_10, q_evE_11, q_evE_12, q_evE_13, q_evE_14, q_evE_15, q_evE_16, q_evE_17, q_evE_18, q_evE_19, q_evE_20, q_evEs_1, q_evEs_2, q_evP_1, q_evP_2, q_evC_1, q_evC_2, q_evI_1, q_evI_2, q_evRet_1, q_evS_1, q_evS_2, q_evS_3, q_evS_4, q_evS_5, q_evS_6, q_evS_7, q_evS_8, q_evS_9, q_evS_10, q_evS_11, q_evS_12, q_evS_13, q_evS_14, q_evS_15, q_evS_16, q_evSs_1, q_evSs_2, q_oa_0, q_rt_0, q_oa_1, q_rt_1, q_oa_2, q_rt_2, q_oa_3, q_rt_3, q_oa_4, q_rt_4, q_oa_5, q_rt_5, q_oa_6, q_rt_6, q_oa_7, q_rt_7, q_oa_8, q_rt_8, q_oa_9, q_rt_9, q_oa_10, q_rt_10, q_oa_11, q_rt_11, q_oa_12, q_rt_12, q_oa_13, q_rt_13, q_oa_14, q_rt_14, q_oa_15, q_rt_15, q_oa_16, q_rt_16, q_oa_17, q_rt_17, q_ar_0, q_ar_1, q_ar_2, asI_N, asI_i, q_l2, q_l3, q_l4, q_l5, q_l6, q_l7, q_l8, q_l9, q_l10, q_l11, q_l12, q_l13, q_ret, q_bind, q_bindn, q_map, q_mapn, q_one, q_zero, q_evT, q_own, evNeg, startR, List.getElem?_cons_succ, List.getElem?_cons_zero, List.set_cons_succ, List.set_cons_zero, List.map_cons, List.map_nil, List.replicate, List.length_cons, List.length_nil, List.append_eq, List.nil_append, List.cons_append, Bool.and_true, Bool.true_and, Bool.and_false, Bool.false_and, Bool.not_true, Bool.not_false, if_true, if_false, reduceCtorEq, Nat.reduceSub, Nat.reduceAdd, Nat.reduceLeDiff, Bool.false_eq_true, Bool.or_false, Bool.false_or, ite_true, ite_false, n_add, lenOk_0, lenOk_1, lenOk_2, lenOk_3, lenOk_4, lenOk_5, lenOk_6, lenOk_7, lenOk_8]
  rw [e]
  simp only [q_wipeR_1, q_wipeR_2, q_asg_1, q_asg_2, q_asg_3, q_asg_4, q_asgR_1, q_ownedArg_1, q_ownedArgs_1, q_ownedArgs_2, q_itemsOf_1, q_itemsOf_2, q_evE_1, q_evE_2, q_evE_3, q_evE_4, q_evE_5, q_evE_6, q_evE_7, q_evE_8, q_evE_9, q_evE_10, q_evE_11, q_evE_12, q_evE_13, q_evE_14, q_evE_15, q_evE_16, q_evE_17, q_evE_18, q_evE_19, q_evE_20, q_evEs_1, q_evEs_2, q_evP_1, q_evP_2, q_evC_1, q_evC_2, q_evI_1, q_evI_2, q_evRet_1, q_evS_1, q_evS_2, q_evS_3, q_evS_4, q_evS_5, q_evS_6, q_evS_7, q_evS_8, q_evS_9, q_evS_10, q_evS_11, q_evS_12, q_evS_13, q_evS_14, q_evS_15, q_evS_16, q_evSs_1, q_evSs_2, q_oa_0, q_rt_0, q_oa_1, q_rt_1, q_oa_2, q_rt_2, q_oa_3, q_rt_3, q_oa_4, q_rt_4, q_oa_5, q_rt_5, q_oa_6, q_rt_6, q_oa_7, q_rt_7, q_oa_8, q_rt_8, q_oa_9, q_rt_9, q_oa_10, q_rt_10, q_oa_11, q_rt_11, q_oa_12, q_rt_12, q_oa_13, q_rt_13, q_oa_14, q_rt_14, q_oa_15, q_rt_15, q_oa_16, q_rt_16, q_oa_17, q_rt_17, q_ar_0, q_ar_1, q_ar_2, asI_N, asI_i, q_l2, q_l3, q_l4, q_l5, q_l6, q_l7, q_l8, q_l9, q_l10, q_l11, q_l12, q_l13, q_ret, q_bind, q_bindn, q_map, q_mapn, q_one, q_zero, q_evT, q_own, evNeg, startR, List.getElem?_cons_succ, List.getElem?_cons_zero, List.set_cons_succ, List.set_cons_zero, List.map_cons, List.map_nil, List.replicate, List.length_cons, List.length_nil, List.append_eq, List.nil_append, List.cons_append, Bool.and_true, Bool.true_and, Bool.and_false, Bool.false_and, Bool.not_true, Bool.not_false, if_true, if_false, reduceCtorEq, Nat.reduceSub, Nat.reduceAdd, Nat.reduceLeDiff, Bool.false_eq_true, Bool.or_false, Bool.false_or, ite_true, ite_false, n_add, lenOk_0, lenOk_1, lenOk_2, lenOk_3, lenOk_4, lenOk_5, lenOk_6, lenOk_7, lenOk_8, n_sum]
  rfl
abbrev B := Nat × Nat × Nat × Nat
def encB (b : B) : PyData := .tuple [N b.1, N b.2.1, N b.2.2.1, N b.2.2.2]
def encF (p : B × Nat) : PyData := .tuple [encB p.1, N p.2]
/-- the next rectangles -/
def row1 (m filled x y h w : Nat) : Option (B × Nat) := if filled &&& mk m x y w h = 0 then some ((y, x, h, w), filled ||| mk m x y w h) else none
def rowF (m filled x y : Nat) (h : Nat) : List (B × Nat) := (List.range' 1 (m - x)).filterMap (row1 m filled x y h)
def nextR (m n filled : Nat) : Option (List (B × Nat)) := (fe (m * n) filled).map fun a => (List.range' 1 (n - a / m)).flatMap (rowF m filled (a % m) (a / m))
theorem nr_inner {m n filled x y h : Nat} {acc : List PyData} {j7 j8 : Option R} (hm : m ≤ 20) (hn : n ≤ 20) (hx : x < m) (hh : y + h ≤ n) (ha : acc.length ≤ 100000) :
    ∃ ρ', forGo (.nm 7) (blk FUEL ib_next_rectangles_1) ((List.range' 1 (m - x)).map N) [sN m, sN n, sN filled, sN x, sN y, some (true, .list acc), sN h, j7, j8] = some (.nx ρ') ∧
      ∃ j7 j8, ρ' = [sN m, sN n, sN filled, sN x, sN y, some (true, .list (acc ++ (rowF m filled x y h).map encF)), sN h, j7, j8] := by
  unfold rowF
  refine forGo_do N (fun pre ρ => ∃ j7 j8, ρ = [sN m, sN n, sN filled, sN x, sN y, some (true, .list (acc ++ (pre.filterMap (row1 m filled x y h)).map encF)), sN h, j7, j8]) ⟨j7, j8, by simp⟩ ?_
  rintro pre w suf ρ hl ⟨k7, k8, rfl⟩
  have hw : w ∈ List.range' 1 (m - x) := by rw [hl]; simp
  rw [List.mem_range'_1] at hw
  have hp : pre.length ≤ m - x := by
    have := congrArg List.length hl
    rw [List.length_range', List.length_append] at this
    omega
  have hf := List.length_filterMap_le (row1 m filled x y h) pre
  refine ⟨_, _, rfl, ?_, sN w, sN (mk m x y w h), rfl⟩
  unfold blk ib_next_rectangles_1
  simp only [q_wipeR_1, q_wipeR_2, q_asg_1, q_asg_2, q_asg_3, q_asg_4, q_asgR_1, q_ownedArg_1, q_ownedArgs_1, q_ownedArgs_2, q_itemsOf_1, q_itemsOf_2, q_evE_1, q_evE_2, q_evE_3, q_evE_4, q_evE_5, q_evE_6, q_evE_7, q_evE_8, q_evE_9, q_evE_10, q_evE_11, q_evE_12, q_evE_13, q_evE_14, q_evE_15, q_evE_16, q_evE_17, q_evE_18, q_evE_19, q_evE_20, q_evEs_1, q_evEs_2, q_evP_1, q_evP_2, q_evC_1, q_evC_2, q_evI_1, q_evI_2, q_evRet_1, q_evS_1, q_evS_2, q_evS_3, q_evS_4, q_evS_5, q_evS_6, q_evS_7, q_evS_8, q_evS_9, q_evS_10, q_evS_11, q_evS_12, q_evS_13, q_evS_14, q_evS_15, q_evS_16, q_evSs_1, q_evSs_2, q_oa_0, q_rt_0, q_oa_1, q_rt_1, q_oa_2, q_rt_2, q_oa_3, q_rt_3, q_oa_4, q_rt_4, q_oa_5, q_rt_5, q_oa_6, q_rt_6, q_oa_7, q_rt_7, q_oa_8, q_rt_8, q_oa_9, q_rt_9, q_oa_10, q_rt_10, q_oa_11, q_rt_11, q_oa_12, q_rt_12, q_oa_13, q_rt_13, q_oa_14, q_rt_14, q_oa_15, q_rt_15, q_oa_16, q_rt_16, q_oa_17, q_rt_17, q_ar_0, q_ar_1, q_ar_2, asI_N, asI_i, q_l2, q_l3, q_l4, q_l5, q_l6, q_l7, q_l8, q_l9, q_l10, q_l11, q_l12, q_l13, q_ret, q_bind, q_bindn, q_map, q_mapn, q_one, q_zero, q_evT, q_own, evNeg, startR, List.getElem?_cons_succ, List.getElem?_cons_zero, List.set_cons_succ, List.set_cons_zero, List.map_cons, List.map_nil, List.replicate, List.length_cons, List.length_nil, List.append_eq, List.nil_append, List.cons_append, Bool.and_true, Bool.true_and, Bool.and_false, Bool.false_and, Bool.not_true, Bool.not_false, if_true, if_false, reduceCtorEq, Nat.reduceSub, Nat.reduceAdd, Nat.reduceLeDiff, Bool.false_eq_true, Bool.or_false, Bool.false_or, ite_true, ite_false, n_add, lenOk_0, lenOk_1, lenOk_2, lenOk_3, lenOk_4, lenOk_5, lenOk_6, lenOk_7, lenOk_8, mark_of_is (show m ≤ 100 by omega) (show x + w ≤ 100 by omega) (show y + h ≤ 100 by omega), n_band, n_eq, n_bor]
  rw [List.filterMap_append, List.map_append]
  by_cases hb : filled &&& mk m x y w h = 0
  · have e : row1 m filled x y h w = some ((y, x, h, w), filled ||| mk m x y w h) := if_pos hb
    simp only [q_wipeR_1, q_wipeR_2, q_asg_1, q_asg_2, q_asg_3, q_asg_4, q_asgR_1, q_ownedArg_1, q_ownedArgs_1, q_ownedArgs_2, q_itemsOf_1, q_itemsOf_2, q_evE_1, q_evE_2, q_evE_3, q_evE_4, q_evE_5, q_evE_6, q_evE_7, q_evE_8, q_evE_9, q_evE_10, q_evE_11, q_evE_12, q_evE_13, q_evE_14, q_evE_15, q_evE_16, q_evE_17, q_evE_18, q_evE_19, q_evE_20, q_evEs_1, q_evEs_2, q_evP_1, q_evP_2, q_evC_1, q_evC_2, q_evI_1, q_evI_2, q_evRet_1, q_evS_1, q_evS_2, q_evS_3, q_evS_4, q_evS_5, q_evS_6, q_evS_7, q_evS_8, q_evS_9, q_evS_10, q_evS_11, q_evS_12, q_evS_13, q_evS_14, q_evS_15, q_evS_16, q_evSs_1, q_evSs_2, q_oa_0, q_rt_0, q_oa_1, q_rt_1, q_oa_2, q_rt_2, q_oa_3, q_rt_3, q_oa_4, q_rt_4, q_oa_5, q_rt_5, q_oa_6, q_rt_6, q_oa_7, q_rt_7, q_oa_8, q_rt_8, q_oa_9, q_rt_9, q_oa_10, q_rt_10, q_oa_11, q_rt_11, q_oa_12, q_rt_12, q_oa_13, q_rt_13, q_oa_14, q_rt_14, q_oa_15, q_rt_15, q_oa_16, q_rt_16, q_oa_17, q_rt_17, q_ar_0, q_ar_1, q_ar_2, asI_N, asI_i, q_l2, q_l3, q_l4, q_l5, q_l6, q_l7, q_l8, q_l9, q_l10, q_l11, q_l12, q_l13, q_ret, q_bind, q_bindn, q_map, q_mapn, q_one, q_zero, q_evT, q_own, evNeg, startR, List.getElem?_cons_succ, List.getElem?_cons_zero, List.set_cons_succ, List.set_cons_zero, List.map_cons, List.map_nil, List.replicate, List.length_cons, List.length_nil, List.append_eq, List.nil_append, List.cons_append, Bool.and_true, Bool.true_and, Bool.and_false, Bool.false_and, Bool.not_true, Bool.not_false, if_true, if_false, reduceCtorEq, Nat.reduceSub, Nat.reduceAdd, Nat.reduceLeDiff, Bool.false_eq_true, Bool.or_false, Bool.false_or, ite_true, ite_false, n_add, lenOk_0, lenOk_1, lenOk_2, lenOk_3, lenOk_4, lenOk_5, lenOk_6, lenOk_7, lenOk_8, hb, decide_true, List.filterMap_cons_some e, List.filterMap_nil]
    rw [if_pos (lenOk_of (by rw [List.length_append, List.length_map]; omega))]
    simp only [q_wipeR_1, q_wipeR_2, q_asg_1, q_asg_2, q_asg_3, q_asg_4, q_asgR_1, q_ownedArg_1, q_ownedArgs_1, q_ownedArgs_2, q_itemsOf_1, q_itemsOf_2, q_evE_1, q_evE_2, q_evE_3, q_evE_4, q_evE_5, q_evE_6, q_evE_7, q_evE_8, q_evE_9, q_evE_10, q_evE_11, q_evE_12, q_evE_13, q_evE_14, q_evE_15, q_evE_16, q_evE_17, q_evE_18, q_evE_19, q_evE_20, q_evEs_1, q_evEs_2, q_evP_1, q_evP_2, q_evC_1, q_evC_2, q_evI_1, q_evI_2, q_evRet_1, q_evS_1, q_evS_2, q_evS_3, q_evS_4, q_evS_5, q_evS_6, q_evS_7, q_evS_8, q_evS_9, q_evS_10, q_evS_11, q_evS_12, q_evS_13, q_evS_14, q_evS_15, q_evS_16, q_evSs_1, q_evSs_2, q_oa_0, q_rt_0, q_oa_1, q_rt_1, q_oa_2, q_rt_2, q_oa_3, q_rt_3, q_oa_4, q_rt_4, q_oa_5, q_rt_5, q_oa_6, q_rt_6, q_oa_7, q_rt_7, q_oa_8, q_rt_8, q_oa_9, q_rt_9, q_oa_10, q_rt_10, q_oa_11, q_rt_11, q_oa_12, q_rt_12, q_oa_13, q_rt_13, q_oa_14, q_rt_14, q_oa_15, q_rt_15, q_oa_16, q_rt_16, q_oa_17, q_rt_17, q_ar_0, q_ar_1, q_ar_2, asI_N, asI_i, q_l2, q_l3, q_l4, q_l5, q_l6, q_l7, q_l8, q_l9, q_l10, q_l11, q_l12, q_l13, q_ret, q_bind, q_bindn, q_map, q_mapn, q_one, q_zero, q_evT, q_own, evNeg, startR, List.getElem?_cons_succ, List.getElem?_cons_zero, List.set_cons_succ, List.set_cons_zero, List.map_cons, List.map_nil, List.replicate, List.length_cons, List.length_nil, List.append_eq, List.nil_append, List.cons_append, Bool.and_true, Bool.true_and, Bool.and_false, Bool.false_and, Bool.not_true, Bool.not_false, if_true, if_false, reduceCtorEq, Nat.reduceSub, Nat.reduceAdd, Nat.reduceLeDiff, Bool.false_eq_true, Bool.or_false, Bool.false_or, ite_true, ite_false, n_add, lenOk_0, lenOk_1, lenOk_2, lenOk_3, lenOk_4, lenOk_5, lenOk_6, lenOk_7, lenOk_8, List.append_assoc]
    rfl
  · have e : row1 m filled x y h w = none := if_neg hb
    simp only [q_wipeR_1, q_wipeR_2, q_asg_1, q_asg_2, q_asg_3, q_asg_4, q_asgR_1, q_ownedArg_1, q_ownedArgs_1, q_ownedArgs_2, q_itemsOf_1, q_itemsOf_2, q_evE_1, q_evE_2, q_evE_3, q_evE_4, q_evE_5, q_evE_6, q_evE_7, q_evE_8, q_evE_9, q_evE_10, q_evE_11, q_evE_12, q_evE_13, q_evE_14, q_evE_15, q_evE_16, q_evE_17, q_evE_18, q_evE_19, q_evE_20, q_evEs_1, q_evEs_2, q_evP_1, q_evP_2, q_evC_1, q_evC_2, q_evI_1, q_evI_2, q_evRet_1, q_evS_1, q_evS_2, q_evS_3, q_evS_4, q_evS_5, q_evS_6, q_evS_7, q_evS_8, q_evS_9, q_evS_10, q_evS_11, q_evS_12, q_evS_13, q_evS_14, q_evS_15, q_evS_16, q_evSs_1, q_evSs_2, q_oa_0, q_rt_0, q_oa_1, q_rt_1, q_oa_2, q_rt_2, q_oa_3, q_rt_3, q_oa_4, q_rt_4, q_oa_5, q_rt_5, q_oa_6, q_rt_6, q_oa_7, q_rt_7, q_oa_8, q_rt_8, q_oa_9, q_rt_9, q_oa_10, q_rt_10, q_oa_11, q_rt_11, q_oa_12, q_rt_12, q_oa_13, q_rt_13, q_oa_14, q_rt_14, q_oa_15, q_rt_15, q_oa_16, q_rt_16, q_oa_17, q_rt_17, q_ar_0, q_ar_1, q_ar_2, asI_N, asI_i, q_l2, q_l3, q_l4, q_l5, q_l6, q_l7, q_l8, q_l9, q_l10, q_l11, q_l12, q_l13, q_ret, q_bind, q_bindn, q_map, q_mapn, q_one, q_zero, q_evT, q_own, evNeg, startR, List.getElem?_cons_succ, List.getElem?_cons_zero, List.set_cons_succ, List.set_cons_zero, List.map_cons, List.map_nil, List.replicate, List.length_cons, List.length_nil, List.append_eq, List.nil_append, List.cons_append, Bool.and_true, Bool.true_and, Bool.and_false, Bool.false_and, Bool.not_true, Bool.not_false, if_true, if_false, reduceCtorEq, Nat.reduceSub, Nat.reduceAdd, Nat.reduceLeDiff, Bool.false_eq_true, Bool.or_false, Bool.false_or, ite_true, ite_false, n_add, lenOk_0, lenOk_1, lenOk_2, lenOk_3, lenOk_4, lenOk_5, lenOk_6, lenOk_7, lenOk_8, hb, decide_false, List.filterMap_cons_none e, List.filterMap_nil, List.append_nil]
theorem rowF_len {m filled x y h : Nat} : (rowF m filled x y h).length ≤ m := by
  have := List.length_filterMap_le (row1 m filled x y h) (List.range' 1 (m - x))
  rw [List.length_range'] at this
  unfold rowF
  omega
theorem flat_len {m filled x y : Nat} : ∀ l : List Nat, (l.flatMap (rowF m filled x y)).length ≤ l.length * m
  | [] => by simp
  | h :: l => by
    have := flat_len (m := m) (filled := filled) (x := x) (y := y) l
    have := rowF_len (m := m) (filled := filled) (x := x) (y := y) (h := h)
    rw [List.flatMap_cons, List.length_append, List.length_cons, Nat.succ_mul]
    omega
theorem nr_outer {m n filled x y : Nat} {j6 j7 j8 : Option R} (hm : m ≤ 20) (hn : n ≤ 20) (hx : x < m) (hy : y < n) :
    ∃ ρ', forGo (.nm 6) (blk FUEL ib_next_rectangles_2) ((List.range' 1 (n - y)).map N) [sN m, sN n, sN filled, sN x, sN y, some (true, .list []), j6, j7, j8] = some (.nx ρ') ∧
      ∃ j6 j7 j8, ρ' = [sN m, sN n, sN filled, sN x, sN y, some (true, .list (((List.range' 1 (n - y)).flatMap (rowF m filled x y)).map encF)), j6, j7, j8] := by
  refine forGo_do N (fun pre ρ => ∃ j6 j7 j8, ρ = [sN m, sN n, sN filled, sN x, sN y, some (true, .list ((pre.flatMap (rowF m filled x y)).map encF)), j6, j7, j8]) ⟨j6, j7, j8, by simp⟩ ?_
  rintro pre h suf ρ hl ⟨k6, k7, k8, rfl⟩
  have hw : h ∈ List.range' 1 (n - y) := by rw [hl]; simp
  rw [List.mem_range'_1] at hw
  have hp : pre.length ≤ n - y := by
    have := congrArg List.length hl
    rw [List.length_range', List.length_append] at this
    omega
  have hf := flat_len (m := m) (filled := filled) (x := x) (y := y) pre
  have hq : pre.length * m ≤ 20 * 20 := Nat.mul_le_mul (by omega) (by omega)
  obtain ⟨ρ', e, k7', k8', rfl⟩ := nr_inner (m := m) (n := n) (filled := filled) (x := x) (y := y) (h := h) (acc := (pre.flatMap (rowF m filled x y)).map encF) (j7 := k7) (j8 := k8) hm hn hx (by omega) (by rw [List.length_map]; omega)
  refine ⟨_, _, rfl, ?_, sN h, k7', k8', rfl⟩
  unfold blk ib_next_rectangles_2
  simp only [q_wipeR_1, q_wipeR_2, q_asg_1, q_asg_2, q_asg_3, q_asg_4, q_asgR_1, q_ownedArg_1, q_ownedArgs_1, q_ownedArgs_2, q_itemsOf_1, q_itemsOf_2, q_evE_1, q_evE_2, q_evE_3, q_evE_4, q_evE_5, q_evE_6, q_evE_7, q_evE_8, q_evE_9, q_evE_10, q_evE_11, q_evE_12, q_evE_13, q_evE_14, q_evE_15, q_evE_16, q_evE_17, q_evE_18, q_evE_19, q_evE_20, q_evEs_1, q_evEs_2, q_evP_1, q_evP_2, q_evC_1, q_evC_2, q_evI_1, q_evI_2, q_evRet_1, q_evS_1, q_evS_2, q_evS_3, q_evS_4, q_evS_5, q_evS_6, q_evS_7, q_evS_8, q_evS_9, q_evS_10, q_evS_11, q_evS_12, q_evS_13, q_evS_14, q_evS_15, q_evS_16, q_evSs_1, q_evSs_2, q_oa_0, q_rt_0, q_oa_1, q_rt_1, q_oa_2, q_rt_2, q_oa_3, q_rt_3, q_oa_4, q_rt_4, q_oa_5, q_rt_5, q_oa_6, q_rt_6, q_oa_7, q_rt_7, q_oa_8, q_rt_8, q_oa_9, q_rt_9, q_oa_10, q_rt_10, q_oa_11, q_rt_11, q_oa_12, q_rt_12, q_oa_13, q_rt_13, q_oa_14, q_rt_14, q_oa_15, q_rt_15, q_oa_16, q_rt_16, q_oa_17, q_rt_17, q_ar_0, q_ar_1, q_ar_2, asI_N, asI_i, q_l2, q_l3, q_l4, q_l5, q_l6, q_l7, q_l8, q_l9, q_l10, q_l11, q_l12, q_l13, q_ret, q_bind, q_bindn, q_map, q_mapn, q_one, q_zero, q_evT, q_own, evNeg, startR, List.getElem?_cons_succ, List.getElem?_cons_zero, List.set_cons_succ, List.set_cons_zero, List.map_cons, List.map_nil, List.replicate, List.length_cons, List.length_nil, List.append_eq, List.nil_append, List.cons_append, Bool.and_true, Bool.true_and, Bool.and_false, Bool.false_and, Bool.not_true, Bool.not_false, if_true, if_false, reduceCtorEq, Nat.reduceSub, Nat.reduceAdd, Nat.reduceLeDiff, Bool.false_eq_true, Bool.or_false, Bool.false_or, ite_true, ite_false, n_add, lenOk_0, lenOk_1, lenOk_2, lenOk_3, lenOk_4, lenOk_5, lenOk_6, lenOk_7, lenOk_8, n_sub (show x ≤ m by omega), n_rng2' (show 1 ≤ 1000 by decide) (show m - x + 1 ≤ 1000 by omega), Nat.add_sub_cancel]
  rw [e]
  simp only [q_wipeR_1, q_wipeR_2, q_asg_1, q_asg_2, q_asg_3, q_asg_4, q_asgR_1, q_ownedArg_1, q_ownedArgs_1, q_ownedArgs_2, q_itemsOf_1, q_itemsOf_2, q_evE_1, q_evE_2, q_evE_3, q_evE_4, q_evE_5, q_evE_6, q_evE_7, q_evE_8, q_evE_9, q_evE_10, q_evE_11, q_evE_12, q_evE_13, q_evE_14, q_evE_15, q_evE_16, q_evE_17, q_evE_18, q_evE_19, q_evE_20, q_evEs_1, q_evEs_2, q_evP_1, q_evP_2, q_evC_1, q_evC_2, q_evI_1, q_evI_2, q_evRet_1, q_evS_1, q_evS_2, q_evS_3, q_evS_4, q_evS_5, q_evS_6, q_evS_7, q_evS_8, q_evS_9, q_evS_10, q_evS_11, q_evS_12, q_evS_13, q_evS_14, q_evS_15, q_evS_16, q_evSs_1, q_evSs_2, q_oa_0, q_rt_0, q_oa_1, q_rt_1, q_oa_2, q_rt_2, q_oa_3, q_rt_3, q_oa_4, q_rt_4, q_oa_5, q_rt_5, q_oa_6, q_rt_6, q_oa_7, q_rt_7, q_oa_8, q_rt_8, q_oa_9, q_rt_9, q_oa_10, q_rt_10, q_oa_11, q_rt_11, q_oa_12, q_rt_12, q_oa_13, q_rt_13, q_oa_14, q_rt_14, q_oa_15, q_rt_15, q_oa_16, q_rt_16, q_oa_17, q_rt_17, q_ar_0, q_ar_1, q_ar_2, asI_N, asI_i, q_l2, q_l3, q_l4, q_l5, q_l6, q_l7, q_l8, q_l9, q_l10, q_l11, q_l12, q_l13, q_ret, q_bind, q_bindn, q_map, q_mapn, q_one, q_zero, q_evT, q_own, evNeg, startR, List.getElem?_cons_succ, List.getElem?_cons_zero, List.set_cons_succ, List.set_cons_zero, List.map_cons, List.map_nil, List.replicate, List.length_cons, List.length_nil, List.append_eq, List.nil_append, List.cons_append, Bool.and_true, Bool.true_and, Bool.and_false, Bool.false_and, Bool.not_true, Bool.not_false, if_true, if_false, reduceCtorEq, Nat.reduceSub, Nat.reduceAdd, Nat.reduceLeDiff, Bool.false_eq_true, Bool.or_false, Bool.false_or, ite_true, ite_false, n_add, lenOk_0, lenOk_1, lenOk_2, lenOk_3, lenOk_4, lenOk_5, lenOk_6, lenOk_7, lenOk_8, List.flatMap_append, List.flatMap_cons, List.flatMap_nil, List.append_nil, List.map_append]
theorem fe_lt {c filled a : Nat} (h : fe c filled = some a) : a < c := by
  have := List.mem_of_find?_eq_some h
  rwa [List.mem_range] at this
theorem next_is {m n filled : Nat} {l : List (B × Nat)} (hm0 : 0 < m) (hm : m ≤ 20) (hn : n ≤ 20) (h : nextR m n filled = some l) : f_next_rectangles [N m, N n, N filled] = some (true, .list (l.map encF)) ∧ l.length ≤ 400 := by
  unfold nextR at h
  obtain ⟨a, e1, e2⟩ := map_some h
  have ha := fe_lt e1
  have hx : a % m < m := Nat.mod_lt _ hm0
  have hy : a / m < n := Nat.div_lt_of_lt_mul ha
  have hmn : m * n ≤ 20 * 20 := Nat.mul_le_mul hm hn
  have e2 : (List.range' 1 (n - a / m)).flatMap (rowF m filled (a % m) (a / m)) = l := e2
  have e3 := first_empty_is (filled := filled) hm0 (show m < 2 ^ 64 by omega) (show m * n ≤ 1000000 by omega)
  rw [e1] at e3
  have e3 : f_first_empty [N m, N (m * n), N filled] = some (false, .tuple [N (a % m), N (a / m)]) := e3
  clear h
  generalize a % m = x at *
  generalize a / m = y at *
  have hlen := flat_len (m := m) (filled := filled) (x := x) (y := y) (List.range' 1 (n - y))
  rw [e2, List.length_range'] at hlen
  have hq : (n - y) * m ≤ 20 * 20 := Nat.mul_le_mul (by omega) (by omega)
  refine ⟨?_, by omega⟩
  obtain ⟨ρ', e, j6, j7, j8, rfl⟩ := nr_outer (m := m) (n := n) (filled := filled) (x := x) (y := y) (j6 := none) (j7 := none) (j8 := none) hm hn hx hy
  unfold f_next_rectangles evDef ir_next_rectangles
  simp only [q_wipeR_1, q_wipeR_2, q_asg_1, q_asg_2, q_asg_3, q_asg_4, q_asgR_1, q_ownedArg_1, q_ownedArgs_1, q_ownedArgs_2, q_itemsOf_1, q_itemsOf_2, q_evE_1, q_evE_2, q_evE_3, q_evE_4, q_evE_5, q_evE_6, q_evE_7, q_evE_8, q_evE_9, q_evE_10, q_evE_11, q_evE_12, q_evE_13, q_evE_14, q_evE_15, q_evE_16, q_evE_17, q_evE_18, q_evE_19, q_evE_20, q_evEs_1, q_evEs_2, q_evP_1, q_evP_2, q_evC_1, q_evC_2, q_evI_1, q_evI_2, q_evRet_1, q_evS_1, q_evS_2, q_evS_3, q_evS_4, q_evS_5, q_evS_6, q_evS_7, q_evS_8, q_evS_9, q_evS_10, q_evS_11, q_evS_12, q_evS_13, q_evS_14, q_evS_15, q_evS_16, q_evSs_1, q_evSs_2, q_oa_0, q_rt_0, q_oa_1, q_rt_1, q_oa_2, q_rt_2, q_oa_3, q_rt_3, q_oa_4, q_rt_4, q_oa_5, q_rt_5, q_oa_6, q_rt_6, q_oa_7, q_rt_7, q_oa_8, q_rt_8, q_oa_9, q_rt_9, q_oa_10, q_rt_10, q_oa_11, q_rt_11, q_oa_12, q_rt_12, q_oa_13, q_rt_13, q_oa_14, q_rt_14, q_oa_15, q_rt_15, q_oa_16, q_rt_16, q_oa_17, q_rt_17, q_ar_0, q_ar_1, q_ar_2, asI_N, asI_i, q_l2, q_l3, q_l4, q_l5, q_l6, q_l7, q_l8, q_l9, q_l10, q_l11, q_l12, q_l13, q_ret, q_bind, q_bindn, q_map, q_mapn, q_one, q_zero, q_evT, q_own, evNeg, startR, List.getElem?_cons_succ, List.getElem?_cons_zero, List.set_cons_succ, List.set_cons_zero, List.map_cons, List.map_nil, List.replicate, List.length_cons, List.length_nil, List.append_eq, List.nil_append, List.cons_append, Bool.and_true, Bool.true_and, Bool.and_false, Bool.false_and, Bool.not_true, Bool.not_false, if_true, if_false, reduceCtorEq, Nat.reduceSub, Nat.reduceAdd, Nat.reduceLeDiff, Bool.false_eq_true, Bool.or_false, Bool.false_or, ite_true, ite_false, n_add, lenOk_0, lenOk_1, lenOk_2, lenOk_3, lenOk_4, lenOk_5, lenOk_6, lenOk_7, lenOk_8, n_mul (show m < 2 ^ 64 by omega) (show n < 2 ^ 64 by omega), e3, n_sub (show y ≤ n by omega), n_rng2' (show 1 ≤ 1000 by decide) (show n - y + 1 ≤ 1000 by omega), Nat.add_sub_cancel]
  rw [e]
  simp only [q_wipeR_1, q_wipeR_2, q_asg_1, q_asg_2, q_asg_3, q_asg_4, q_asgR_1, q_ownedArg_1, q_ownedArgs_1, q_ownedArgs_2, q_itemsOf_1, q_itemsOf_2, q_evE_1, q_evE_2, q_evE_3, q_evE_4, q_evE_5, q_evE_6, q_evE_7, q_evE_8, q_evE_9, q_evE_10, q_evE_11, q_evE_12, q_evE_13, q_evE_14, q_evE_15, q_evE_16, q_evE_17, q_evE_18, q_evE_19, q_evE_20, q_evEs_1, q_evEs_2, q_evP_1, q_evP_2, q_evC_1, q_evC_2, q_evI_1, q_evI_2, q_evRet_1, q_evS_1, q_evS_2, q_evS_3, q_evS_4, q_evS_5, q_evS_6, q_evS_7, q_evS_8, q_evS_9, q_evS_10, q_evS_11, q_evS_12, q_evS_13, q_evS_14, q_evS_15, q_evS_16, q_evSs_1, q_evSs_2, q_oa_0, q_rt_0, q_oa_1, q_rt_1, q_oa_2, q_rt_2, q_oa_3, q_rt_3, q_oa_4, q_rt_4, q_oa_5, q_rt_5, q_oa_6, q_rt_6, q_oa_7, q_rt_7, q_oa_8, q_rt_8, q_oa_9, q_rt_9, q_oa_10, q_rt_10, q_oa_11, q_rt_11, q_oa_12, q_rt_12, q_oa_13, q_rt_13, q_oa_14, q_rt_14, q_oa_15, q_rt_15, q_oa_16, q_rt_16, q_oa_17, q_rt_17, q_ar_0, q_ar_1, q_ar_2, asI_N, asI_i, q_l2, q_l3, q_l4, q_l5, q_l6, q_l7, q_l8, q_l9, q_l10, q_l11, q_l12, q_l13, q_ret, q_bind, q_bindn, q_map, q_mapn, q_one, q_zero, q_evT, q_own, evNeg, startR, List.getElem?_cons_succ, List.getElem?_cons_zero, List.set_cons_succ, List.set_cons_zero, List.map_cons, List.map_nil, List.replicate, List.length_cons, List.length_nil, List.append_eq, List.nil_append, List.cons_append, Bool.and_true, Bool.true_and, Bool.and_false, Bool.false_and, Bool.not_true, Bool.not_false, if_true, if_false, reduceCtorEq, Nat.reduceSub, Nat.reduceAdd, Nat.reduceLeDiff, Bool.false_eq_true, Bool.or_false, Bool.false_or, ite_true, ite_false, n_add, lenOk_0, lenOk_1, lenOk_2, lenOk_3, lenOk_4, lenOk_5, lenOk_6, lenOk_7, lenOk_8, e2]
/-- all ways -/
def encW (w : List B) : PyData := .list (w.map encB)
def encS (p : List B × Nat) : PyData := .tuple [encW p.1, N p.2]
def awGo (m n whole : Nat) : Nat → List (List B × Nat) → List (List B) → Option (List (List B))
  | 0, _, _ => none
  | _ + 1, [], found => some found
  | k + 1, (way, filled) :: st, found => if filled = whole then awGo m n whole k st (way :: found) else match nextR m n filled with
    | none => none
    | some l => awGo m n whole k ((l.map fun p => (way ++ [p.1], p.2)).reverse ++ st) found
theorem aw_comp {m n filled whole : Nat} {way : List B} {l : List (B × Nat)} {d3 d4 : Option R} {j7 j8 : Option R} (hm0 : 0 < m) (hm : m ≤ 20) (hn : n ≤ 20) (h : nextR m n filled = some l) (hw : way.length ≤ 1000000) :
    evE ic_all_ways_1 false [sN m, sN n, sN whole, d3, d4, some (false, encW way), sN filled, j7, j8] = some (true, .list ((l.map fun p => (way ++ [p.1], p.2)).map encS)) := by
  obtain ⟨h1, h2⟩ := next_is hm0 hm hn h
  unfold ic_all_ways_1
  simp only [q_wipeR_1, q_wipeR_2, q_asg_1, q_asg_2, q_asg_3, q_asg_4, q_asgR_1, q_ownedArg_1, q_ownedArgs_1, q_ownedArgs_2, q_itemsOf_1, q_itemsOf_2, q_evE_1, q_evE_2, q_evE_3, q_evE_4, q_evE_5, q_evE_6, q_evE_7, q_evE_8, q_evE_9, q_evE_10, q_evE_11, q_evE_12, q_evE_13, q_evE_14, q_evE_15, q_evE_16, q_evE_17, q_evE_18, q_evE_19, q_evE_20, q_evEs_1, q_evEs_2, q_evP_1, q_evP_2, q_evC_1, q_evC_2, q_evI_1, q_evI_2, q_evRet_1, q_evS_1, q_evS_2, q_evS_3, q_evS_4, q_evS_5, q_evS_6, q_evS_7, q_evS_8, q_evS_9, q_evS_10, q_evS_11, q_evS_12, q_evS_13, q_evS_14, q_evS_15, q_evS_16, q_evSs_1, q_evSs_2, q_oa_0, q_rt_0, q_oa_1, q_rt_1, q_oa_2, q_rt_2, q_oa_3, q_rt_3, q_oa_4, q_rt_4, q_oa_5, q_rt_5, q_oa_6, q_rt_6, q_oa_7, q_rt_7, q_oa_8, q_rt_8, q_oa_9, q_rt_9, q_oa_10, q_rt_10, q_oa_11, q_rt_11, q_oa_12, q_rt_12, q_oa_13, q_rt_13, q_oa_14, q_rt_14, q_oa_15, q_rt_15, q_oa_16, q_rt_16, q_oa_17, q_rt_17, q_ar_0, q_ar_1, q_ar_2, asI_N, asI_i, q_l2, q_l3, q_l4, q_l5, q_l6, q_l7, q_l8, q_l9, q_l10, q_l11, q_l12, q_l13, q_ret, q_bind, q_bindn, q_map, q_mapn, q_one, q_zero, q_evT, q_own, evNeg, startR, List.getElem?_cons_succ, List.getElem?_cons_zero, List.set_cons_succ, List.set_cons_zero, List.map_cons, List.map_nil, List.replicate, List.length_cons, List.length_nil, List.append_eq, List.nil_append, List.cons_append, Bool.and_true, Bool.true_and, Bool.and_false, Bool.false_and, Bool.not_true, Bool.not_false, if_true, if_false, reduceCtorEq, Nat.reduceSub, Nat.reduceAdd, Nat.reduceLeDiff, Bool.false_eq_true, Bool.or_false, Bool.false_or, ite_true, ite_false, n_add, lenOk_0, lenOk_1, lenOk_2, lenOk_3, lenOk_4, lenOk_5, lenOk_6, lenOk_7, lenOk_8, h1]
  rw [compGo_map (en2 := encS) (fun p => some (way ++ [p.1], p.2)), filterMap_some]
  · simp only [q_wipeR_1, q_wipeR_2, q_asg_1, q_asg_2, q_asg_3, q_asg_4, q_asgR_1, q_ownedArg_1, q_ownedArgs_1, q_ownedArgs_2, q_itemsOf_1, q_itemsOf_2, q_evE_1, q_evE_2, q_evE_3, q_evE_4, q_evE_5, q_evE_6, q_evE_7, q_evE_8, q_evE_9, q_evE_10, q_evE_11, q_evE_12, q_evE_13, q_evE_14, q_evE_15, q_evE_16, q_evE_17, q_evE_18, q_evE_19, q_evE_20, q_evEs_1, q_evEs_2, q_evP_1, q_evP_2, q_evC_1, q_evC_2, q_evI_1, q_evI_2, q_evRet_1, q_evS_1, q_evS_2, q_evS_3, q_evS_4, q_evS_5, q_evS_6, q_evS_7, q_evS_8, q_evS_9, q_evS_10, q_evS_11, q_evS_12, q_evS_13, q_evS_14, q_evS_15, q_evS_16, q_evSs_1, q_evSs_2, q_oa_0, q_rt_0, q_oa_1, q_rt_1, q_oa_2, q_rt_2, q_oa_3, q_rt_3, q_oa_4, q_rt_4, q_oa_5, q_rt_5, q_oa_6, q_rt_6, q_oa_7, q_rt_7, q_oa_8, q_rt_8, q_oa_9, q_rt_9, q_oa_10, q_rt_10, q_oa_11, q_rt_11, q_oa_12, q_rt_12, q_oa_13, q_rt_13, q_oa_14, q_rt_14, q_oa_15, q_rt_15, q_oa_16, q_rt_16, q_oa_17, q_rt_17, q_ar_0, q_ar_1, q_ar_2, asI_N, asI_i, q_l2, q_l3, q_l4, q_l5, q_l6, q_l7, q_l8, q_l9, q_l10, q_l11, q_l12, q_l13, q_ret, q_bind, q_bindn, q_map, q_mapn, q_one, q_zero, q_evT, q_own, evNeg, startR, List.getElem?_cons_succ, List.getElem?_cons_zero, List.set_cons_succ, List.set_cons_zero, List.map_cons, List.map_nil, List.replicate, List.length_cons, List.length_nil, List.append_eq, List.nil_append, List.cons_append, Bool.and_true, Bool.true_and, Bool.and_false, Bool.false_and, Bool.not_true, Bool.not_false, if_true, if_false, reduceCtorEq, Nat.reduceSub, Nat.reduceAdd, Nat.reduceLeDiff, Bool.false_eq_true, Bool.or_false, Bool.false_or, ite_true, ite_false, n_add, lenOk_0, lenOk_1, lenOk_2, lenOk_3, lenOk_4, lenOk_5, lenOk_6, lenOk_7, lenOk_8]
  · intro p hp
    obtain ⟨b, f⟩ := p
    show (Option.bind (asg (.two (.nm 7) (.nm 8)) (.tuple [encB b, N f]) _) _) = _
    unfold encW
    simp only [q_wipeR_1, q_wipeR_2, q_asg_1, q_asg_2, q_asg_3, q_asg_4, q_asgR_1, q_ownedArg_1, q_ownedArgs_1, q_ownedArgs_2, q_itemsOf_1, q_itemsOf_2, q_evE_1, q_evE_2, q_evE_3, q_evE_4, q_evE_5, q_evE_6, q_evE_7, q_evE_8, q_evE_9, q_evE_10, q_evE_11, q_evE_12, q_evE_13, q_evE_14, q_evE_15, q_evE_16, q_evE_17, q_evE_18, q_evE_19, q_evE_20, q_evEs_1, q_evEs_2, q_evP_1, q_evP_2, q_evC_1, q_evC_2, q_evI_1, q_evI_2, q_evRet_1, q_evS_1, q_evS_2, q_evS_3, q_evS_4, q_evS_5, q_evS_6, q_evS_7, q_evS_8, q_evS_9, q_evS_10, q_evS_11, q_evS_12, q_evS_13, q_evS_14, q_evS_15, q_evS_16, q_evSs_1, q_evSs_2, q_oa_0, q_rt_0, q_oa_1, q_rt_1, q_oa_2, q_rt_2, q_oa_3, q_rt_3, q_oa_4, q_rt_4, q_oa_5, q_rt_5, q_oa_6, q_rt_6, q_oa_7, q_rt_7, q_oa_8, q_rt_8, q_oa_9, q_rt_9, q_oa_10, q_rt_10, q_oa_11, q_rt_11, q_oa_12, q_rt_12, q_oa_13, q_rt_13, q_oa_14, q_rt_14, q_oa_15, q_rt_15, q_oa_16, q_rt_16, q_oa_17, q_rt_17, q_ar_0, q_ar_1, q_ar_2, asI_N, asI_i, q_l2, q_l3, q_l4, q_l5, q_l6, q_l7, q_l8, q_l9, q_l10, q_l11, q_l12, q_l13, q_ret, q_bind, q_bindn, q_map, q_mapn, q_one, q_zero, q_evT, q_own, evNeg, startR, List.getElem?_cons_succ, List.getElem?_cons_zero, List.set_cons_succ, List.set_cons_zero, List.map_cons, List.map_nil, List.replicate, List.length_cons, List.length_nil, List.append_eq, List.nil_append, List.cons_append, Bool.and_true, Bool.true_and, Bool.and_false, Bool.false_and, Bool.not_true, Bool.not_false, if_true, if_false, reduceCtorEq, Nat.reduceSub, Nat.reduceAdd, Nat.reduceLeDiff, Bool.false_eq_true, Bool.or_false, Bool.false_or, ite_true, ite_false, n_add, lenOk_0, lenOk_1, lenOk_2, lenOk_3, lenOk_4, lenOk_5, lenOk_6, lenOk_7, lenOk_8, evBin, List.length_map]
    rw [if_pos (lenOk_of (by omega))]
    simp only [q_wipeR_1, q_wipeR_2, q_asg_1, q_asg_2, q_asg_3, q_asg_4, q_asgR_1, q_ownedArg_1, q_ownedArgs_1, q_ownedArgs_2, q_itemsOf_1, q_itemsOf_2, q_evE_1, q_evE_2, q_evE_3, q_evE_4, q_evE_5, q_evE_6, q_evE_7, q_evE_8, q_evE_9, q_evE_10, q_evE_11, q_evE_12, q_evE_13, q_evE_14, q_evE_15, q_evE_16, q_evE_17, q_evE_18, q_evE_19, q_evE_20, q_evEs_1, q_evEs_2, q_evP_1, q_evP_2, q_evC_1, q_evC_2, q_evI_1, q_evI_2, q_evRet_1, q_evS_1, q_evS_2, q_evS_3, q_evS_4, q_evS_5, q_evS_6, q_evS_7, q_evS_8, q_evS_9, q_evS_10, q_evS_11, q_evS_12, q_evS_13, q_evS_14, q_evS_15, q_evS_16, q_evSs_1, q_evSs_2, q_oa_0, q_rt_0, q_oa_1, q_rt_1, q_oa_2, q_rt_2, q_oa_3, q_rt_3, q_oa_4, q_rt_4, q_oa_5, q_rt_5, q_oa_6, q_rt_6, q_oa_7, q_rt_7, q_oa_8, q_rt_8, q_oa_9, q_rt_9, q_oa_10, q_rt_10, q_oa_11, q_rt_11, q_oa_12, q_rt_12, q_oa_13, q_rt_13, q_oa_14, q_rt_14, q_oa_15, q_rt_15, q_oa_16, q_rt_16, q_oa_17, q_rt_17, q_ar_0, q_ar_1, q_ar_2, asI_N, asI_i, q_l2, q_l3, q_l4, q_l5, q_l6, q_l7, q_l8, q_l9, q_l10, q_l11, q_l12, q_l13, q_ret, q_bind, q_bindn, q_map, q_mapn, q_one, q_zero, q_evT, q_own, evNeg, startR, List.getElem?_cons_succ, List.getElem?_cons_zero, List.set_cons_succ, List.set_cons_zero, List.map_cons, List.map_nil, List.replicate, List.length_cons, List.length_nil, List.append_eq, List.nil_append, List.cons_append, Bool.and_true, Bool.true_and, Bool.and_false, Bool.false_and, Bool.not_true, Bool.not_false, if_true, if_false, reduceCtorEq, Nat.reduceSub, Nat.reduceAdd, Nat.reduceLeDiff, Bool.false_eq_true, Bool.or_false, Bool.false_or, ite_true, ite_false, n_add, lenOk_0, lenOk_1, lenOk_2, lenOk_3, lenOk_4, lenOk_5, lenOk_6, lenOk_7, lenOk_8]
    unfold encS encW
    rw [List.map_append]
    rfl
theorem own_get {ds : List PyData} : (some (some (true, PyData.list ds))) = some (some (true, PyData.list ds)) := rfl
theorem aw_step {m n whole filled : Nat} {way : List B} {st : List (List B × Nat)} {found : List (List B)} {j5 j6 j7 j8 : Option R} (hm0 : 0 < m) (hm : m ≤ 20) (hn : n ≤ 20) (hf : found.length ≤ 1000000) (hs : st.length ≤ 16000000) (hw : way.length ≤ 1000000)
    {st' : List (List B × Nat)} {found' : List (List B)} (h : (if filled = whole then some (st, way :: found) else (nextR m n filled).map fun l => ((l.map fun p => (way ++ [p.1], p.2)).reverse ++ st, found)) = some (st', found')) :
    evSs FUEL ib_all_ways_2 [sN m, sN n, sN whole, some (true, .list ((((way, filled) :: st).reverse).map encS)), some (true, .list ((found.reverse).map encW)), j5, j6, j7, j8] =
      some (.nx [sN m, sN n, sN whole, some (true, .list (st'.reverse.map encS)), some (true, .list (found'.reverse.map encW)), some (false, encW way), sN filled, j7, j8]) := by
  have e1 : (((way, filled) :: st).reverse).map encS = st.reverse.map encS ++ [.tuple [encW way, N filled]] := by
    rw [List.reverse_cons, List.map_append]; rfl
  rw [e1]
  unfold ib_all_ways_2
  simp only [q_wipeR_1, q_wipeR_2, q_asg_1, q_asg_2, q_asg_3, q_asg_4, q_asgR_1, q_ownedArg_1, q_ownedArgs_1, q_ownedArgs_2, q_itemsOf_1, q_itemsOf_2, q_evE_1, q_evE_2, q_evE_3, q_evE_4, q_evE_5, q_evE_6, q_evE_7, q_evE_8, q_evE_9, q_evE_10, q_evE_11, q_evE_12, q_evE_13, q_evE_14, q_evE_15, q_evE_16, q_evE_17, q_evE_18, q_evE_19, q_evE_20, q_evEs_1, q_evEs_2, q_evP_1, q_evP_2, q_evC_1, q_evC_2, q_evI_1, q_evI_2, q_evRet_1, q_evS_1, q_evS_2, q_evS_3, q_evS_4, q_evS_5, q_evS_6, q_evS_7, q_evS_8, q_evS_9, q_evS_10, q_evS_11, q_evS_12, q_evS_13, q_evS_14, q_evS_15, q_evS_16, q_evSs_1, q_evSs_2, q_oa_0, q_rt_0, q_oa_1, q_rt_1, q_oa_2, q_rt_2, q_oa_3, q_rt_3, q_oa_4, q_rt_4, q_oa_5, q_rt_5, q_oa_6, q_rt_6, q_oa_7, q_rt_7, q_oa_8, q_rt_8, q_oa_9, q_rt_9, q_oa_10, q_rt_10, q_oa_11, q_rt_11, q_oa_12, q_rt_12, q_oa_13, q_rt_13, q_oa_14, q_rt_14, q_oa_15, q_rt_15, q_oa_16, q_rt_16, q_oa_17, q_rt_17, q_ar_0, q_ar_1, q_ar_2, asI_N, asI_i, q_l2, q_l3, q_l4, q_l5, q_l6, q_l7, q_l8, q_l9, q_l10, q_l11, q_l12, q_l13, q_ret, q_bind, q_bindn, q_map, q_mapn, q_one, q_zero, q_evT, q_own, evNeg, startR, List.getElem?_cons_succ, List.getElem?_cons_zero, List.set_cons_succ, List.set_cons_zero, List.map_cons, List.map_nil, List.replicate, List.length_cons, List.length_nil, List.append_eq, List.nil_append, List.cons_append, Bool.and_true, Bool.true_and, Bool.and_false, Bool.false_and, Bool.not_true, Bool.not_false, if_true, if_false, reduceCtorEq, Nat.reduceSub, Nat.reduceAdd, Nat.reduceLeDiff, Bool.false_eq_true, Bool.or_false, Bool.false_or, ite_true, ite_false, n_add, lenOk_0, lenOk_1, lenOk_2, lenOk_3, lenOk_4, lenOk_5, lenOk_6, lenOk_7, lenOk_8, List.getLast?_concat, List.dropLast_concat, n_eq]
  by_cases hc : filled = whole
  · rw [if_pos hc] at h
    cases h
    simp only [q_wipeR_1, q_wipeR_2, q_asg_1, q_asg_2, q_asg_3, q_asg_4, q_asgR_1, q_ownedArg_1, q_ownedArgs_1, q_ownedArgs_2, q_itemsOf_1, q_itemsOf_2, q_evE_1, q_evE_2, q_evE_3, q_evE_4, q_evE_5, q_evE_6, q_evE_7, q_evE_8, q_evE_9, q_evE_10, q_evE_11, q_evE_12, q_evE_13, q_evE_14, q_evE_15, q_evE_16, q_evE_17, q_evE_18, q_evE_19, q_evE_20, q_evEs_1, q_evEs_2, q_evP_1, q_evP_2, q_evC_1, q_evC_2, q_evI_1, q_evI_2, q_evRet_1, q_evS_1, q_evS_2, q_evS_3, q_evS_4, q_evS_5, q_evS_6, q_evS_7, q_evS_8, q_evS_9, q_evS_10, q_evS_11, q_evS_12, q_evS_13, q_evS_14, q_evS_15, q_evS_16, q_evSs_1, q_evSs_2, q_oa_0, q_rt_0, q_oa_1, q_rt_1, q_oa_2, q_rt_2, q_oa_3, q_rt_3, q_oa_4, q_rt_4, q_oa_5, q_rt_5, q_oa_6, q_rt_6, q_oa_7, q_rt_7, q_oa_8, q_rt_8, q_oa_9, q_rt_9, q_oa_10, q_rt_10, q_oa_11, q_rt_11, q_oa_12, q_rt_12, q_oa_13, q_rt_13, q_oa_14, q_rt_14, q_oa_15, q_rt_15, q_oa_16, q_rt_16, q_oa_17, q_rt_17, q_ar_0, q_ar_1, q_ar_2, asI_N, asI_i, q_l2, q_l3, q_l4, q_l5, q_l6, q_l7, q_l8, q_l9, q_l10, q_l11, q_l12, q_l13, q_ret, q_bind, q_bindn, q_map, q_mapn, q_one, q_zero, q_evT, q_own, evNeg, startR, List.getElem?_cons_succ, List.getElem?_cons_zero, List.set_cons_succ, List.set_cons_zero, List.map_cons, List.map_nil, List.replicate, List.length_cons, List.length_nil, List.append_eq, List.nil_append, List.cons_append, Bool.and_true, Bool.true_and, Bool.and_false, Bool.false_and, Bool.not_true, Bool.not_false, if_true, if_false, reduceCtorEq, Nat.reduceSub, Nat.reduceAdd, Nat.reduceLeDiff, Bool.false_eq_true, Bool.or_false, Bool.false_or, ite_true, ite_false, n_add, lenOk_0, lenOk_1, lenOk_2, lenOk_3, lenOk_4, lenOk_5, lenOk_6, lenOk_7, lenOk_8, hc, decide_true]
    rw [if_pos (lenOk_of (by rw [List.length_map, List.length_reverse]; omega))]
    simp only [q_wipeR_1, q_wipeR_2, q_asg_1, q_asg_2, q_asg_3, q_asg_4, q_asgR_1, q_ownedArg_1, q_ownedArgs_1, q_ownedArgs_2, q_itemsOf_1, q_itemsOf_2, q_evE_1, q_evE_2, q_evE_3, q_evE_4, q_evE_5, q_evE_6, q_evE_7, q_evE_8, q_evE_9, q_evE_10, q_evE_11, q_evE_12, q_evE_13, q_evE_14, q_evE_15, q_evE_16, q_evE_17, q_evE_18, q_evE_19, q_evE_20, q_evEs_1, q_evEs_2, q_evP_1, q_evP_2, q_evC_1, q_evC_2, q_evI_1, q_evI_2, q_evRet_1, q_evS_1, q_evS_2, q_evS_3, q_evS_4, q_evS_5, q_evS_6, q_evS_7, q_evS_8, q_evS_9, q_evS_10, q_evS_11, q_evS_12, q_evS_13, q_evS_14, q_evS_15, q_evS_16, q_evSs_1, q_evSs_2, q_oa_0, q_rt_0, q_oa_1, q_rt_1, q_oa_2, q_rt_2, q_oa_3, q_rt_3, q_oa_4, q_rt_4, q_oa_5, q_rt_5, q_oa_6, q_rt_6, q_oa_7, q_rt_7, q_oa_8, q_rt_8, q_oa_9, q_rt_9, q_oa_10, q_rt_10, q_oa_11, q_rt_11, q_oa_12, q_rt_12, q_oa_13, q_rt_13, q_oa_14, q_rt_14, q_oa_15, q_rt_15, q_oa_16, q_rt_16, q_oa_17, q_rt_17, q_ar_0, q_ar_1, q_ar_2, asI_N, asI_i, q_l2, q_l3, q_l4, q_l5, q_l6, q_l7, q_l8, q_l9, q_l10, q_l11, q_l12, q_l13, q_ret, q_bind, q_bindn, q_map, q_mapn, q_one, q_zero, q_evT, q_own, evNeg, startR, List.getElem?_cons_succ, List.getElem?_cons_zero, List.set_cons_succ, List.set_cons_zero, List.map_cons, List.map_nil, List.replicate, List.length_cons, List.length_nil, List.append_eq, List.nil_append, List.cons_append, Bool.and_true, Bool.true_and, Bool.and_false, Bool.false_and, Bool.not_true, Bool.not_false, if_true, if_false, reduceCtorEq, Nat.reduceSub, Nat.reduceAdd, Nat.reduceLeDiff, Bool.false_eq_true, Bool.or_false, Bool.false_or, ite_true, ite_false, n_add, lenOk_0, lenOk_1, lenOk_2, lenOk_3, lenOk_4, lenOk_5, lenOk_6, lenOk_7, lenOk_8, List.reverse_cons, List.map_append]
  · rw [if_neg hc] at h
    obtain ⟨l, h1, h2⟩ := map_some h
    cases h2
    simp only [q_wipeR_1, q_wipeR_2, q_asg_1, q_asg_2, q_asg_3, q_asg_4, q_asgR_1, q_ownedArg_1, q_ownedArgs_1, q_ownedArgs_2, q_itemsOf_1, q_itemsOf_2, q_evE_1, q_evE_2, q_evE_3, q_evE_4, q_evE_5, q_evE_6, q_evE_7, q_evE_8, q_evE_9, q_evE_10, q_evE_11, q_evE_12, q_evE_13, q_evE_14, q_evE_15, q_evE_16, q_evE_17, q_evE_18, q_evE_19, q_evE_20, q_evEs_1, q_evEs_2, q_evP_1, q_evP_2, q_evC_1, q_evC_2, q_evI_1, q_evI_2, q_evRet_1, q_evS_1, q_evS_2, q_evS_3, q_evS_4, q_evS_5, q_evS_6, q_evS_7, q_evS_8, q_evS_9, q_evS_10, q_evS_11, q_evS_12, q_evS_13, q_evS_14, q_evS_15, q_evS_16, q_evSs_1, q_evSs_2, q_oa_0, q_rt_0, q_oa_1, q_rt_1, q_oa_2, q_rt_2, q_oa_3, q_rt_3, q_oa_4, q_rt_4, q_oa_5, q_rt_5, q_oa_6, q_rt_6, q_oa_7, q_rt_7, q_oa_8, q_rt_8, q_oa_9, q_rt_9, q_oa_10, q_rt_10, q_oa_11, q_rt_11, q_oa_12, q_rt_12, q_oa_13, q_rt_13, q_oa_14, q_rt_14, q_oa_15, q_rt_15, q_oa_16, q_rt_16, q_oa_17, q_rt_17, q_ar_0, q_ar_1, q_ar_2, asI_N, asI_i, q_l2, q_l3, q_l4, q_l5, q_l6, q_l7, q_l8, q_l9, q_l10, q_l11, q_l12, q_l13, q_ret, q_bind, q_bindn, q_map, q_mapn, q_one, q_zero, q_evT, q_own, evNeg, startR, List.getElem?_cons_succ, List.getElem?_cons_zero, List.set_cons_succ, List.set_cons_zero, List.map_cons, List.map_nil, List.replicate, List.length_cons, List.length_nil, List.append_eq, List.nil_append, List.cons_append, Bool.and_true, Bool.true_and, Bool.and_false, Bool.false_and, Bool.not_true, Bool.not_false, if_true, if_false, reduceCtorEq, Nat.reduceSub, Nat.reduceAdd, Nat.reduceLeDiff, Bool.false_eq_true, Bool.or_false, Bool.false_or, ite_true, ite_false, n_add, lenOk_0, lenOk_1, lenOk_2, lenOk_3, lenOk_4, lenOk_5, lenOk_6, lenOk_7, lenOk_8, hc, decide_false]
    rw [aw_comp hm0 hm hn h1 hw]
    have := (next_is hm0 hm hn h1).2
    simp only [q_wipeR_1, q_wipeR_2, q_asg_1, q_asg_2, q_asg_3, q_asg_4, q_asgR_1, q_ownedArg_1, q_ownedArgs_1, q_ownedArgs_2, q_itemsOf_1, q_itemsOf_2, q_evE_1, q_evE_2, q_evE_3, q_evE_4, q_evE_5, q_evE_6, q_evE_7, q_evE_8, q_evE_9, q_evE_10, q_evE_11, q_evE_12, q_evE_13, q_evE_14, q_evE_15, q_evE_16, q_evE_17, q_evE_18, q_evE_19, q_evE_20, q_evEs_1, q_evEs_2, q_evP_1, q_evP_2, q_evC_1, q_evC_2, q_evI_1, q_evI_2, q_evRet_1, q_evS_1, q_evS_2, q_evS_3, q_evS_4, q_evS_5, q_evS_6, q_evS_7, q_evS_8, q_evS_9, q_evS_10, q_evS_11, q_evS_12, q_evS_13, q_evS_14, q_evS_15, q_evS_16, q_evSs_1, q_evSs_2, q_oa_0, q_rt_0, q_oa_1, q_rt_1, q_oa_2, q_rt_2, q_oa_3, q_rt_3, q_oa_4, q_rt_4, q_oa_5, q_rt_5, q_oa_6, q_rt_6, q_oa_7, q_rt_7, q_oa_8, q_rt_8, q_oa_9, q_rt_9, q_oa_10, q_rt_10, q_oa_11, q_rt_11, q_oa_12, q_rt_12, q_oa_13, q_rt_13, q_oa_14, q_rt_14, q_oa_15, q_rt_15, q_oa_16, q_rt_16, q_oa_17, q_rt_17, q_ar_0, q_ar_1, q_ar_2, asI_N, asI_i, q_l2, q_l3, q_l4, q_l5, q_l6, q_l7, q_l8, q_l9, q_l10, q_l11, q_l12, q_l13, q_ret, q_bind, q_bindn, q_map, q_mapn, q_one, q_zero, q_evT, q_own, evNeg, startR, List.getElem?_cons_succ, List.getElem?_cons_zero, List.set_cons_succ, List.set_cons_zero, List.map_cons, List.map_nil, List.replicate, List.length_cons, List.length_nil, List.append_eq, List.nil_append, List.cons_append, Bool.and_true, Bool.true_and, Bool.and_false, Bool.false_and, Bool.not_true, Bool.not_false, if_true, if_false, reduceCtorEq, Nat.reduceSub, Nat.reduceAdd, Nat.reduceLeDiff, Bool.false_eq_true, Bool.or_false, Bool.false_or, ite_true, ite_false, n_add, lenOk_0, lenOk_1, lenOk_2, lenOk_3, lenOk_4, lenOk_5, lenOk_6, lenOk_7, lenOk_8]
    rw [if_pos (lenOk_of (by simp only [List.length_map, List.length_reverse]; omega))]
    simp only [q_wipeR_1, q_wipeR_2, q_asg_1, q_asg_2, q_asg_3, q_asg_4, q_asgR_1, q_ownedArg_1, q_ownedArgs_1, q_ownedArgs_2, q_itemsOf_1, q_itemsOf_2, q_evE_1, q_evE_2, q_evE_3, q_evE_4, q_evE_5, q_evE_6, q_evE_7, q_evE_8, q_evE_9, q_evE_10, q_evE_11, q_evE_12, q_evE_13, q_evE_14, q_evE_15, q_evE_16, q_evE_17, q_evE_18, q_evE_19, q_evE_20, q_evEs_1, q_evEs_2, q_evP_1, q_evP_2, q_evC_1, q_evC_2, q_evI_1, q_evI_2, q_evRet_1, q_evS_1, q_evS_2, q_evS_3, q_evS_4, q_evS_5, q_evS_6, q_evS_7, q_evS_8, q_evS_9, q_evS_10, q_evS_11, q_evS_12, q_evS_13, q_evS_14, q_evS_15, q_evS_16, q_evSs_1, q_evSs_2, q_oa_0, q_rt_0, q_oa_1, q_rt_1, q_oa_2, q_rt_2, q_oa_3, q_rt_3, q_oa_4, q_rt_4, q_oa_5, q_rt_5, q_oa_6, q_rt_6, q_oa_7, q_rt_7, q_oa_8, q_rt_8, q_oa_9, q_rt_9, q_oa_10, q_rt_10, q_oa_11, q_rt_11, q_oa_12, q_rt_12, q_oa_13, q_rt_13, q_oa_14, q_rt_14, q_oa_15, q_rt_15, q_oa_16, q_rt_16, q_oa_17, q_rt_17, q_ar_0, q_ar_1, q_ar_2, asI_N, asI_i, q_l2, q_l3, q_l4, q_l5, q_l6, q_l7, q_l8, q_l9, q_l10, q_l11, q_l12, q_l13, q_ret, q_bind, q_bindn, q_map, q_mapn, q_one, q_zero, q_evT, q_own, evNeg, startR, List.getElem?_cons_succ, List.getElem?_cons_zero, List.set_cons_succ, List.set_cons_zero, List.map_cons, List.map_nil, List.replicate, List.length_cons, List.length_nil, List.append_eq, List.nil_append, List.cons_append, Bool.and_true, Bool.true_and, Bool.and_false, Bool.false_and, Bool.not_true, Bool.not_false, if_true, if_false, reduceCtorEq, Nat.reduceSub, Nat.reduceAdd, Nat.reduceLeDiff, Bool.false_eq_true, Bool.or_false, Bool.false_or, ite_true, ite_false, n_add, lenOk_0, lenOk_1, lenOk_2, lenOk_3, lenOk_4, lenOk_5, lenOk_6, lenOk_7, lenOk_8, List.reverse_append, List.reverse_reverse, List.map_append]
theorem aw_test {s0 s1 s2 s4 s5 s6 s7 s8 : Option R} {ds : List PyData} : tst iw_all_ways_2 [s0, s1, s2, some (true, .list ds), s4, s5, s6, s7, s8] = some (decide (0 < ds.length)) := by
  unfold tst iw_all_ways_2
  simp only [q_wipeR_1, q_wipeR_2, q_asg_1, q_asg_2, q_asg_3, q_asg_4, q_asgR_1, q_ownedArg_1, q_ownedArgs_1, q_ownedArgs_2, q_itemsOf_1, q_itemsOf_2, q_evE_1, q_evE_2, q_evE_3, q_evE_4, q_evE_5, q_evE_6, q_evE_7, q_evE_8, q_evE_9, q_evE_10, q_evE_11, q_evE_12, q_evE_13, q_evE_14, q_evE_15, q_evE_16, q_evE_17, q_evE_18, q_evE_19, q_evE_20, q_evEs_1, q_evEs_2, q_evP_1, q_evP_2, q_evC_1, q_evC_2, q_evI_1, q_evI_2, q_evRet_1, q_evS_1, q_evS_2, q_evS_3, q_evS_4, q_evS_5, q_evS_6, q_evS_7, q_evS_8, q_evS_9, q_evS_10, q_evS_11, q_evS_12, q_evS_13, q_evS_14, q_evS_15, q_evS_16, q_evSs_1, q_evSs_2, q_oa_0, q_rt_0, q_oa_1, q_rt_1, q_oa_2, q_rt_2, q_oa_3, q_rt_3, q_oa_4, q_rt_4, q_oa_5, q_rt_5, q_oa_6, q_rt_6, q_oa_7, q_rt_7, q_oa_8, q_rt_8, q_oa_9, q_rt_9, q_oa_10, q_rt_10, q_oa_11, q_rt_11, q_oa_12, q_rt_12, q_oa_13, q_rt_13, q_oa_14, q_rt_14, q_oa_15, q_rt_15, q_oa_16, q_rt_16, q_oa_17, q_rt_17, q_ar_0, q_ar_1, q_ar_2, asI_N, asI_i, q_l2, q_l3, q_l4, q_l5, q_l6, q_l7, q_l8, q_l9, q_l10, q_l11, q_l12, q_l13, q_ret, q_bind, q_bindn, q_map, q_mapn, q_one, q_zero, q_evT, q_own, evNeg, startR, List.getElem?_cons_succ, List.getElem?_cons_zero, List.set_cons_succ, List.set_cons_zero, List.map_cons, List.map_nil, List.replicate, List.length_cons, List.length_nil, List.append_eq, List.nil_append, List.cons_append, Bool.and_true, Bool.true_and, Bool.and_false, Bool.false_and, Bool.not_true, Bool.not_false, if_true, if_false, reduceCtorEq, Nat.reduceSub, Nat.reduceAdd, Nat.reduceLeDiff, Bool.false_eq_true, Bool.or_false, Bool.false_or, ite_true, ite_false, n_add, lenOk_0, lenOk_1, lenOk_2, lenOk_3, lenOk_4, lenOk_5, lenOk_6, lenOk_7, lenOk_8, n_len, n_gt]
theorem aw_loop {m n whole : Nat} (hm0 : 0 < m) (hm : m ≤ 20) (hn : n ≤ 20) : ∀ (k : Nat) (st : List (List B × Nat)) (found r : List (List B)) (fuel : Nat) (j5 j6 j7 j8 : Option R), awGo m n whole k st found = some r → k ≤ fuel → found.length + k ≤ 1000000 → st.length + 500 * k ≤ 16000000 → (∀ p ∈ st, p.1.length + k ≤ 1000000) →
    ∃ d k5 k6 k7 k8, whileGo (tst iw_all_ways_2) (blk FUEL ib_all_ways_2) fuel [sN m, sN n, sN whole, some (true, .list (st.reverse.map encS)), some (true, .list (found.reverse.map encW)), j5, j6, j7, j8] = some (.nx [sN m, sN n, sN whole, d, some (true, .list (r.reverse.map encW)), k5, k6, k7, k8])
  | 0, st, found, r, fuel, j5, j6, j7, j8, h, _, _, _, _ => by cases h
  | k + 1, [], found, r, fuel, j5, j6, j7, j8, h, hk, _, _, _ => by
    obtain ⟨f, rfl⟩ : ∃ f, fuel = f + 1 := ⟨fuel - 1, by omega⟩
    cases h
    exact ⟨some (true, .list []), j5, j6, j7, j8, wh_false aw_test⟩
  | k + 1, (way, filled) :: st, found, r, fuel, j5, j6, j7, j8, h, hk, hf, hs, hw => by
    obtain ⟨f, rfl⟩ : ∃ f, fuel = f + 1 := ⟨fuel - 1, by omega⟩
    rw [List.length_cons] at hs
    have hw0 : way.length + (k + 1) ≤ 1000000 := hw _ List.mem_cons_self
    have e0 : decide (0 < (((way, filled) :: st).reverse.map encS).length) = true := decide_eq_true (by simp)
    rw [awGo] at h
    by_cases hc : filled = whole
    · rw [if_pos hc] at h
      have e := aw_step (m := m) (n := n) (whole := whole) (filled := filled) (way := way) (st := st) (found := found) (j5 := j5) (j6 := j6) (j7 := j7) (j8 := j8) hm0 hm hn (by omega) (by omega) (by omega) (if_pos hc)
      obtain ⟨d, k5, k6, k7, k8, ih⟩ := aw_loop hm0 hm hn k st (way :: found) r f (some (false, encW way)) (sN filled) j7 j8 h (by omega) (by rw [List.length_cons]; omega) (by omega) fun p hp => by have := hw p (List.mem_cons_of_mem _ hp); omega
      exact ⟨d, k5, k6, k7, k8, (wh_true (aw_test.trans (congrArg some e0)) e).trans ih⟩
    · rw [if_neg hc] at h
      cases hn2 : nextR m n filled with
      | none => rw [hn2] at h; cases h
      | some l =>
        rw [hn2] at h
        have hl := (next_is hm0 hm hn hn2).2
        have e := aw_step (m := m) (n := n) (whole := whole) (filled := filled) (way := way) (st := st) (found := found) (j5 := j5) (j6 := j6) (j7 := j7) (j8 := j8) hm0 hm hn (by omega) (by omega) (by omega) ((if_neg hc).trans (by rw [hn2]; rfl))
        obtain ⟨d, k5, k6, k7, k8, ih⟩ := aw_loop hm0 hm hn k _ found r f (some (false, encW way)) (sN filled) j7 j8 h (by omega) (by omega) (by simp only [List.length_append, List.length_reverse, List.length_map]; omega) fun p hp => by
          rcases List.mem_append.mp hp with hp | hp
          · rw [List.mem_reverse] at hp
            obtain ⟨q, _, rfl⟩ := List.mem_map.mp hp
            simp only [List.length_append, List.length_cons, List.length_nil]
            omega
          · have := hw p (List.mem_cons_of_mem _ hp); omega
        exact ⟨d, k5, k6, k7, k8, (wh_true (aw_test.trans (congrArg some e0)) e).trans ih⟩
def wholeOf (m n : Nat) : Nat := 2 ^ (m * n) - 1
def WN : Nat := 8000
/-- the program's ways, the last one first -/
def waysP (m n : Nat) : Option (List (List B)) := awGo m n (wholeOf m n) WN [([], 0)] []
theorem all_ways_is {m n : Nat} {r : List (List B)} (hm0 : 0 < m) (hm : m ≤ 20) (hn : n ≤ 20) (h : waysP m n = some r) : f_all_ways [N m, N n] = some (true, .list (r.reverse.map encW)) := by
  have hmn : m * n ≤ 20 * 20 := Nat.mul_le_mul hm hn
  have hp : 1 ≤ 1 * 2 ^ (m * n) := by rw [Nat.one_mul]; exact Nat.one_le_two_pow
  obtain ⟨d, j5, j6, j7, j8, e⟩ := aw_loop (whole := wholeOf m n) hm0 hm hn WN [([], 0)] [] r FUEL none none none none h (by decide) (by decide) (by decide) (by decide)
  unfold f_all_ways evDef ir_all_ways
  simp only [q_wipeR_1, q_wipeR_2, q_asg_1, q_asg_2, q_asg_3, q_asg_4, q_asgR_1, q_ownedArg_1, q_ownedArgs_1, q_ownedArgs_2, q_itemsOf_1, q_itemsOf_2, q_evE_1, q_evE_2, q_evE_3, q_evE_4, q_evE_5, q_evE_6, q_evE_7, q_evE_8, q_evE_9, q_evE_10, q_evE_11, q_evE_12, q_evE_13, q_evE_14, q_evE_15, q_evE_16, q_evE_17, q_evE_18, q_evE_19, q_evE_20, q_evEs_1, q_evEs_2, q_evP_1, q_evP_2, q_evC_1, q_evC_2, q_evI_1, q_evI_2, q_evRet_1, q_evS_1, q_evS_2, q_evS_3, q_evS_4, q_evS_5, q_evS_6, q_evS_7, q_evS_8, q_evS_9, q_evS_10, q_evS_11, q_evS_12, q_evS_13, q_evS_14, q_evS_15, q_evS_16, q_evSs_1, q_evSs_2, q_oa_0, q_rt_0, q_oa_1, q_rt_1, q_oa_2, q_rt_2, q_oa_3, q_rt_3, q_oa_4, q_rt_4, q_oa_5, q_rt_5, q_oa_6, q_rt_6, q_oa_7, q_rt_7, q_oa_8, q_rt_8, q_oa_9, q_rt_9, q_oa_10, q_rt_10, q_oa_11, q_rt_11, q_oa_12, q_rt_12, q_oa_13, q_rt_13, q_oa_14, q_rt_14, q_oa_15, q_rt_15, q_oa_16, q_rt_16, q_oa_17, q_rt_17, q_ar_0, q_ar_1, q_ar_2, asI_N, asI_i, q_l2, q_l3, q_l4, q_l5, q_l6, q_l7, q_l8, q_l9, q_l10, q_l11, q_l12, q_l13, q_ret, q_bind, q_bindn, q_map, q_mapn, q_one, q_zero, q_evT, q_own, evNeg, startR, List.getElem?_cons_succ, List.getElem?_cons_zero, List.set_cons_succ, List.set_cons_zero, List.map_cons, List.map_nil, List.replicate, List.length_cons, List.length_nil, List.append_eq, List.nil_append, List.cons_append, Bool.and_true, Bool.true_and, Bool.and_false, Bool.false_and, Bool.not_true, Bool.not_false, if_true, if_false, reduceCtorEq, Nat.reduceSub, Nat.reduceAdd, Nat.reduceLeDiff, Bool.false_eq_true, Bool.or_false, Bool.false_or, ite_true, ite_false, n_add, lenOk_0, lenOk_1, lenOk_2, lenOk_3, lenOk_4, lenOk_5, lenOk_6, lenOk_7, lenOk_8, n_mul (show m < 2 ^ 64 by omega) (show n < 2 ^ 64 by omega), n_shl (show 1 < 2 ^ 64 by omega) (show m * n ≤ 1000000 by omega), n_sub hp]
  rw [Nat.one_mul]
  have e : whileGo (tst iw_all_ways_2) (blk FUEL ib_all_ways_2) FUEL [sN m, sN n, sN (2 ^ (m * n) - 1), some (true, .list [.tuple [.list [], N 0]]), some (true, .list []), none, none, none, none] = _ := e
  rw [e]
  simp only [q_wipeR_1, q_wipeR_2, q_asg_1, q_asg_2, q_asg_3, q_asg_4, q_asgR_1, q_ownedArg_1, q_ownedArgs_1, q_ownedArgs_2, q_itemsOf_1, q_itemsOf_2, q_evE_1, q_evE_2, q_evE_3, q_evE_4, q_evE_5, q_evE_6, q_evE_7, q_evE_8, q_evE_9, q_evE_10, q_evE_11, q_evE_12, q_evE_13, q_evE_14, q_evE_15, q_evE_16, q_evE_17, q_evE_18, q_evE_19, q_evE_20, q_evEs_1, q_evEs_2, q_evP_1, q_evP_2, q_evC_1, q_evC_2, q_evI_1, q_evI_2, q_evRet_1, q_evS_1, q_evS_2, q_evS_3, q_evS_4, q_evS_5, q_evS_6, q_evS_7, q_evS_8, q_evS_9, q_evS_10, q_evS_11, q_evS_12, q_evS_13, q_evS_14, q_evS_15, q_evS_16, q_evSs_1, q_evSs_2, q_oa_0, q_rt_0, q_oa_1, q_rt_1, q_oa_2, q_rt_2, q_oa_3, q_rt_3, q_oa_4, q_rt_4, q_oa_5, q_rt_5, q_oa_6, q_rt_6, q_oa_7, q_rt_7, q_oa_8, q_rt_8, q_oa_9, q_rt_9, q_oa_10, q_rt_10, q_oa_11, q_rt_11, q_oa_12, q_rt_12, q_oa_13, q_rt_13, q_oa_14, q_rt_14, q_oa_15, q_rt_15, q_oa_16, q_rt_16, q_oa_17, q_rt_17, q_ar_0, q_ar_1, q_ar_2, asI_N, asI_i, q_l2, q_l3, q_l4, q_l5, q_l6, q_l7, q_l8, q_l9, q_l10, q_l11, q_l12, q_l13, q_ret, q_bind, q_bindn, q_map, q_mapn, q_one, q_zero, q_evT, q_own, evNeg, startR, List.getElem?_cons_succ, List.getElem?_cons_zero, List.set_cons_succ, List.set_cons_zero, List.map_cons, List.map_nil, List.replicate, List.length_cons, List.length_nil, List.append_eq, List.nil_append, List.cons_append, Bool.and_true, Bool.true_and, Bool.and_false, Bool.false_and, Bool.not_true, Bool.not_false, if_true, if_false, reduceCtorEq, Nat.reduceSub, Nat.reduceAdd, Nat.reduceLeDiff, Bool.false_eq_true, Bool.or_false, Bool.false_or, ite_true, ite_false, n_add, lenOk_0, lenOk_1, lenOk_2, lenOk_3, lenOk_4, lenOk_5, lenOk_6, lenOk_7, lenOk_8]
/-! ### cut from edge to edge -/
def co (side : Nat) (b : B) : Nat := if side = 0 then b.1 else b.2.1
def sz (side : Nat) (b : B) : Nat := if side = 0 then b.2.2.1 else b.2.2.2
theorem ix_co {side : Nat} (h : side < 2) (b : B) : evIx (encB b) (N side) = some (false, N (co side b)) := by
  unfold encB
  rw [n_ixt]
  match side, h with
  | 0, _ => rfl
  | 1, _ => rfl
theorem ix_sz {side : Nat} (h : side < 2) (b : B) : evIx (encB b) (N (side + 2)) = some (false, N (sz side b)) := by
  unfold encB
  rw [n_ixt]
  match side, h with
  | 0, _ => rfl
  | 1, _ => rfl
def crosses (side line : Nat) (b : B) : Bool := decide (co side b < line) && decide (line < co side b + sz side b)
def clear (way : List B) (side line : Nat) : Bool := !way.any (crosses side line)
theorem cl_body {way : List B} {side line : Nat} {b : B} (h : side < 2) : blk FUEL ib_is_clear_1 [some (false, encW way), sN side, sN line, some (false, encB b)] = if crosses side line b then some (.rt (false, .bool false)) else some (.nx [some (false, encW way), sN side, sN line, some (false, encB b)]) := by
  unfold blk ib_is_clear_1 crosses
  simp only [q_wipeR_1, q_wipeR_2, q_asg_1, q_asg_2, q_asg_3, q_asg_4, q_asgR_1, q_ownedArg_1, q_ownedArgs_1, q_ownedArgs_2, q_itemsOf_1, q_itemsOf_2, q_evE_1, q_evE_2, q_evE_3, q_evE_4, q_evE_5, q_evE_6, q_evE_7, q_evE_8, q_evE_9, q_evE_10, q_evE_11, q_evE_12, q_evE_13, q_evE_14, q_evE_15, q_evE_16, q_evE_17, q_evE_18, q_evE_19, q_evE_20, q_evEs_1, q_evEs_2, q_evP_1, q_evP_2, q_evC_1, q_evC_2, q_evI_1, q_evI_2, q_evRet_1, q_evS_1, q_evS_2, q_evS_3, q_evS_4, q_evS_5, q_evS_6, q_evS_7, q_evS_8, q_evS_9, q_evS_10, q_evS_11, q_evS_12, q_evS_13, q_evS_14, q_evS_15, q_evS_16, q_evSs_1, q_evSs_2, q_oa_0, q_rt_0, q_oa_1, q_rt_1, q_oa_2, q_rt_2, q_oa_3, q_rt_3, q_oa_4, q_rt_4, q_oa_5, q_rt_5, q_oa_6, q_rt_6, q_oa_7, q_rt_7, q_oa_8, q_rt_8, q_oa_9, q_rt_9, q_oa_10, q_rt_10, q_oa_11, q_rt_11, q_oa_12, q_rt_12, q_oa_13, q_rt_13, q_oa_14, q_rt_14, q_oa_15, q_rt_15, q_oa_16, q_rt_16, q_oa_17, q_rt_17, q_ar_0, q_ar_1, q_ar_2, asI_N, asI_i, q_l2, q_l3, q_l4, q_l5, q_l6, q_l7, q_l8, q_l9, q_l10, q_l11, q_l12, q_l13, q_ret, q_bind, q_bindn, q_map, q_mapn, q_one, q_zero, q_evT, q_own, evNeg, startR, List.getElem?_cons_succ, List.getElem?_cons_zero, List.set_cons_succ, List.set_cons_zero, List.map_cons, List.map_nil, List.replicate, List.length_cons, List.length_nil, List.append_eq, List.nil_append, List.cons_append, Bool.and_true, Bool.true_and, Bool.and_false, Bool.false_and, Bool.not_true, Bool.not_false, if_true, if_false, reduceCtorEq, Nat.reduceSub, Nat.reduceAdd, Nat.reduceLeDiff, Bool.false_eq_true, Bool.or_false, Bool.false_or, ite_true, ite_false, n_add, lenOk_0, lenOk_1, lenOk_2, lenOk_3, lenOk_4, lenOk_5, lenOk_6, lenOk_7, lenOk_8, ix_co h, n_lt, ix_sz h]
  cases decide (co side b < line) <;> simp only [q_wipeR_1, q_wipeR_2, q_asg_1, q_asg_2, q_asg_3, q_asg_4, q_asgR_1, q_ownedArg_1, q_ownedArgs_1, q_ownedArgs_2, q_itemsOf_1, q_itemsOf_2, q_evE_1, q_evE_2, q_evE_3, q_evE_4, q_evE_5, q_evE_6, q_evE_7, q_evE_8, q_evE_9, q_evE_10, q_evE_11, q_evE_12, q_evE_13, q_evE_14, q_evE_15, q_evE_16, q_evE_17, q_evE_18, q_evE_19, q_evE_20, q_evEs_1, q_evEs_2, q_evP_1, q_evP_2, q_evC_1, q_evC_2, q_evI_1, q_evI_2, q_evRet_1, q_evS_1, q_evS_2, q_evS_3, q_evS_4, q_evS_5, q_evS_6, q_evS_7, q_evS_8, q_evS_9, q_evS_10, q_evS_11, q_evS_12, q_evS_13, q_evS_14, q_evS_15, q_evS_16, q_evSs_1, q_evSs_2, q_oa_0, q_rt_0, q_oa_1, q_rt_1, q_oa_2, q_rt_2, q_oa_3, q_rt_3, q_oa_4, q_rt_4, q_oa_5, q_rt_5, q_oa_6, q_rt_6, q_oa_7, q_rt_7, q_oa_8, q_rt_8, q_oa_9, q_rt_9, q_oa_10, q_rt_10, q_oa_11, q_rt_11, q_oa_12, q_rt_12, q_oa_13, q_rt_13, q_oa_14, q_rt_14, q_oa_15, q_rt_15, q_oa_16, q_rt_16, q_oa_17, q_rt_17, q_ar_0, q_ar_1, q_ar_2, asI_N, asI_i, q_l2, q_l3, q_l4, q_l5, q_l6, q_l7, q_l8, q_l9, q_l10, q_l11, q_l12, q_l13, q_ret, q_bind, q_bindn, q_map, q_mapn, q_one, q_zero, q_evT, q_own, evNeg, startR, List.getElem?_cons_succ, List.getElem?_cons_zero, List.set_cons_succ, List.set_cons_zero, List.map_cons, List.map_nil, List.replicate, List.length_cons, List.length_nil, List.append_eq, List.nil_append, List.cons_append, Bool.and_true, Bool.true_and, Bool.and_false, Bool.false_and, Bool.not_true, Bool.not_false, if_true, if_false, reduceCtorEq, Nat.reduceSub, Nat.reduceAdd, Nat.reduceLeDiff, Bool.false_eq_true, Bool.or_false, Bool.false_or, ite_true, ite_false, n_add, lenOk_0, lenOk_1, lenOk_2, lenOk_3, lenOk_4, lenOk_5, lenOk_6, lenOk_7, lenOk_8, ix_co h, n_lt, ix_sz h]
  cases decide (line < co side b + sz side b) <;> simp only [q_wipeR_1, q_wipeR_2, q_asg_1, q_asg_2, q_asg_3, q_asg_4, q_asgR_1, q_ownedArg_1, q_ownedArgs_1, q_ownedArgs_2, q_itemsOf_1, q_itemsOf_2, q_evE_1, q_evE_2, q_evE_3, q_evE_4, q_evE_5, q_evE_6, q_evE_7, q_evE_8, q_evE_9, q_evE_10, q_evE_11, q_evE_12, q_evE_13, q_evE_14, q_evE_15, q_evE_16, q_evE_17, q_evE_18, q_evE_19, q_evE_20, q_evEs_1, q_evEs_2, q_evP_1, q_evP_2, q_evC_1, q_evC_2, q_evI_1, q_evI_2, q_evRet_1, q_evS_1, q_evS_2, q_evS_3, q_evS_4, q_evS_5, q_evS_6, q_evS_7, q_evS_8, q_evS_9, q_evS_10, q_evS_11, q_evS_12, q_evS_13, q_evS_14, q_evS_15, q_evS_16, q_evSs_1, q_evSs_2, q_oa_0, q_rt_0, q_oa_1, q_rt_1, q_oa_2, q_rt_2, q_oa_3, q_rt_3, q_oa_4, q_rt_4, q_oa_5, q_rt_5, q_oa_6, q_rt_6, q_oa_7, q_rt_7, q_oa_8, q_rt_8, q_oa_9, q_rt_9, q_oa_10, q_rt_10, q_oa_11, q_rt_11, q_oa_12, q_rt_12, q_oa_13, q_rt_13, q_oa_14, q_rt_14, q_oa_15, q_rt_15, q_oa_16, q_rt_16, q_oa_17, q_rt_17, q_ar_0, q_ar_1, q_ar_2, asI_N, asI_i, q_l2, q_l3, q_l4, q_l5, q_l6, q_l7, q_l8, q_l9, q_l10, q_l11, q_l12, q_l13, q_ret, q_bind, q_bindn, q_map, q_mapn, q_one, q_zero, q_evT, q_own, evNeg, startR, List.getElem?_cons_succ, List.getElem?_cons_zero, List.set_cons_succ, List.set_cons_zero, List.map_cons, List.map_nil, List.replicate, List.length_cons, List.length_nil, List.append_eq, List.nil_append, List.cons_append, Bool.and_true, Bool.true_and, Bool.and_false, Bool.false_and, Bool.not_true, Bool.not_false, if_true, if_false, reduceCtorEq, Nat.reduceSub, Nat.reduceAdd, Nat.reduceLeDiff, Bool.false_eq_true, Bool.or_false, Bool.false_or, ite_true, ite_false, n_add, lenOk_0, lenOk_1, lenOk_2, lenOk_3, lenOk_4, lenOk_5, lenOk_6, lenOk_7, lenOk_8]
theorem cl_loop {way : List B} {side line : Nat} (h : side < 2) : ∀ (l : List B) (j : Option R), ∃ j', forGo (.nm 3) (blk FUEL ib_is_clear_1) (l.map encB) [some (false, encW way), sN side, sN line, j] = if l.any (crosses side line) then some (.rt (false, .bool false)) else some (.nx [some (false, encW way), sN side, sN line, j'])
  | [], j => ⟨j, rfl⟩
  | b :: l, j => by
    obtain ⟨j', ih⟩ := cl_loop h l (some (false, encB b))
    refine ⟨j', ?_⟩
    have e := cl_body (way := way) (line := line) (b := b) h
    rw [List.map_cons, List.any_cons]
    cases he : crosses side line b with
    | false => rw [he] at e; rw [Bool.false_or]; exact (fr_nx (ρ1 := [some (false, encW way), sN side, sN line, some (false, encB b)]) rfl e).trans ih
    | true => rw [he] at e; exact fr_rt (ρ1 := [some (false, encW way), sN side, sN line, some (false, encB b)]) rfl e
theorem is_clear_is {way : List B} {side line : Nat} (h : side < 2) : f_is_clear [encW way, N side, N line] = some (false, .bool (clear way side line)) := by
  obtain ⟨j', e⟩ := cl_loop (way := way) (line := line) h way none
  unfold f_is_clear evDef ir_is_clear
  have e0 : itemsOf (encW way) = some (way.map encB) := rfl
  simp only [q_wipeR_1, q_wipeR_2, q_asg_1, q_asg_2, q_asg_3, q_asg_4, q_asgR_1, q_ownedArg_1, q_ownedArgs_1, q_ownedArgs_2, q_itemsOf_1, q_itemsOf_2, q_evE_1, q_evE_2, q_evE_3, q_evE_4, q_evE_5, q_evE_6, q_evE_7, q_evE_8, q_evE_9, q_evE_10, q_evE_11, q_evE_12, q_evE_13, q_evE_14, q_evE_15, q_evE_16, q_evE_17, q_evE_18, q_evE_19, q_evE_20, q_evEs_1, q_evEs_2, q_evP_1, q_evP_2, q_evC_1, q_evC_2, q_evI_1, q_evI_2, q_evRet_1, q_evS_1, q_evS_2, q_evS_3, q_evS_4, q_evS_5, q_evS_6, q_evS_7, q_evS_8, q_evS_9, q_evS_10, q_evS_11, q_evS_12, q_evS_13, q_evS_14, q_evS_15, q_evS_16, q_evSs_1, q_evSs_2, q_oa_0, q_rt_0, q_oa_1, q_rt_1, q_oa_2, q_rt_2, q_oa_3, q_rt_3, q_oa_4, q_rt_4, q_oa_5, q_rt_5, q_oa_6, q_rt_6, q_oa_7, q_rt_7, q_oa_8, q_rt_8, q_oa_9, q_rt_9, q_oa_10, q_rt_10, q_oa_11, q_rt_11, q_oa_12, q_rt_12, q_oa_13, q_rt_13, q_oa_14, q_rt_14, q_oa_15, q_rt_15, q_oa_16, q_rt_16, q_oa_17, q_rt_17, q_ar_0, q_ar_1, q_ar_2, asI_N, asI_i, q_l2, q_l3, q_l4, q_l5, q_l6, q_l7, q_l8, q_l9, q_l10, q_l11, q_l12, q_l13, q_ret, q_bind, q_bindn, q_map, q_mapn, q_one, q_zero, q_evT, q_own, evNeg, startR, List.getElem?_cons_succ, List.getElem?_cons_zero, List.set_cons_succ, List.set_cons_zero, List.map_cons, List.map_nil, List.replicate, List.length_cons, List.length_nil, List.append_eq, List.nil_append, List.cons_append, Bool.and_true, Bool.true_and, Bool.and_false, Bool.false_and, Bool.not_true, Bool.not_false, if_true, if_false, reduceCtorEq, Nat.reduceSub, Nat.reduceAdd, Nat.reduceLeDiff, Bool.false_eq_true, Bool.or_false, Bool.false_or, ite_true, ite_false, n_add, lenOk_0, lenOk_1, lenOk_2, lenOk_3, lenOk_4, lenOk_5, lenOk_6, lenOk_7, lenOk_8, e0]
  rw [e]
  unfold clear
  cases way.any (crosses side line) <;> simp only [q_wipeR_1, q_wipeR_2, q_asg_1, q_asg_2, q_asg_3, q_asg_4, q_asgR_1, q_ownedArg_1, q_ownedArgs_1, q_ownedArgs_2, q_itemsOf_1, q_itemsOf_2, q_evE_1, q_evE_2, q_evE_3, q_evE_4, q_evE_5, q_evE_6, q_evE_7, q_evE_8, q_evE_9, q_evE_10, q_evE_11, q_evE_12, q_evE_13, q_evE_14, q_evE_15, q_evE_16, q_evE_17, q_evE_18, q_evE_19, q_evE_20, q_evEs_1, q_evEs_2, q_evP_1, q_evP_2, q_evC_1, q_evC_2, q_evI_1, q_evI_2, q_evRet_1, q_evS_1, q_evS_2, q_evS_3, q_evS_4, q_evS_5, q_evS_6, q_evS_7, q_evS_8, q_evS_9, q_evS_10, q_evS_11, q_evS_12, q_evS_13, q_evS_14, q_evS_15, q_evS_16, q_evSs_1, q_evSs_2, q_oa_0, q_rt_0, q_oa_1, q_rt_1, q_oa_2, q_rt_2, q_oa_3, q_rt_3, q_oa_4, q_rt_4, q_oa_5, q_rt_5, q_oa_6, q_rt_6, q_oa_7, q_rt_7, q_oa_8, q_rt_8, q_oa_9, q_rt_9, q_oa_10, q_rt_10, q_oa_11, q_rt_11, q_oa_12, q_rt_12, q_oa_13, q_rt_13, q_oa_14, q_rt_14, q_oa_15, q_rt_15, q_oa_16, q_rt_16, q_oa_17, q_rt_17, q_ar_0, q_ar_1, q_ar_2, asI_N, asI_i, q_l2, q_l3, q_l4, q_l5, q_l6, q_l7, q_l8, q_l9, q_l10, q_l11, q_l12, q_l13, q_ret, q_bind, q_bindn, q_map, q_mapn, q_one, q_zero, q_evT, q_own, evNeg, startR, List.getElem?_cons_succ, List.getElem?_cons_zero, List.set_cons_succ, List.set_cons_zero, List.map_cons, List.map_nil, List.replicate, List.length_cons, List.length_nil, List.append_eq, List.nil_append, List.cons_append, Bool.and_true, Bool.true_and, Bool.and_false, Bool.false_and, Bool.not_true, Bool.not_false, if_true, if_false, reduceCtorEq, Nat.reduceSub, Nat.reduceAdd, Nat.reduceLeDiff, Bool.false_eq_true, Bool.or_false, Bool.false_or, ite_true, ite_false, n_add, lenOk_0, lenOk_1, lenOk_2, lenOk_3, lenOk_4, lenOk_5, lenOk_6, lenOk_7, lenOk_8]
def lowers (side line : Nat) (way : List B) : List B := keepIf (fun b => decide (co side b < line)) way
def uppers (side line : Nat) (way : List B) : List B := keepIf (fun b => decide (line ≤ co side b)) way
theorem pa_1 {way : List B} {side line : Nat} {d3 d4 : Option R} (h : side < 2) : evE ic_parts_at_1 false [some (false, encW way), sN side, sN line, d3, d4] = some (true, encW (lowers side line way)) := by
  unfold ic_parts_at_1
  have e0 : itemsOf (encW way) = some (way.map encB) := rfl
  simp only [q_wipeR_1, q_wipeR_2, q_asg_1, q_asg_2, q_asg_3, q_asg_4, q_asgR_1, q_ownedArg_1, q_ownedArgs_1, q_ownedArgs_2, q_itemsOf_1, q_itemsOf_2, q_evE_1, q_evE_2, q_evE_3, q_evE_4, q_evE_5, q_evE_6, q_evE_7, q_evE_8, q_evE_9, q_evE_10, q_evE_11, q_evE_12, q_evE_13, q_evE_14, q_evE_15, q_evE_16, q_evE_17, q_evE_18, q_evE_19, q_evE_20, q_evEs_1, q_evEs_2, q_evP_1, q_evP_2, q_evC_1, q_evC_2, q_evI_1, q_evI_2, q_evRet_1, q_evS_1, q_evS_2, q_evS_3, q_evS_4, q_evS_5, q_evS_6, q_evS_7, q_evS_8, q_evS_9, q_evS_10, q_evS_11, q_evS_12, q_evS_13, q_evS_14, q_evS_15, q_evS_16, q_evSs_1, q_evSs_2, q_oa_0, q_rt_0, q_oa_1, q_rt_1, q_oa_2, q_rt_2, q_oa_3, q_rt_3, q_oa_4, q_rt_4, q_oa_5, q_rt_5, q_oa_6, q_rt_6, q_oa_7, q_rt_7, q_oa_8, q_rt_8, q_oa_9, q_rt_9, q_oa_10, q_rt_10, q_oa_11, q_rt_11, q_oa_12, q_rt_12, q_oa_13, q_rt_13, q_oa_14, q_rt_14, q_oa_15, q_rt_15, q_oa_16, q_rt_16, q_oa_17, q_rt_17, q_ar_0, q_ar_1, q_ar_2, asI_N, asI_i, q_l2, q_l3, q_l4, q_l5, q_l6, q_l7, q_l8, q_l9, q_l10, q_l11, q_l12, q_l13, q_ret, q_bind, q_bindn, q_map, q_mapn, q_one, q_zero, q_evT, q_own, evNeg, startR, List.getElem?_cons_succ, List.getElem?_cons_zero, List.set_cons_succ, List.set_cons_zero, List.map_cons, List.map_nil, List.replicate, List.length_cons, List.length_nil, List.append_eq, List.nil_append, List.cons_append, Bool.and_true, Bool.true_and, Bool.and_false, Bool.false_and, Bool.not_true, Bool.not_false, if_true, if_false, reduceCtorEq, Nat.reduceSub, Nat.reduceAdd, Nat.reduceLeDiff, Bool.false_eq_true, Bool.or_false, Bool.false_or, ite_true, ite_false, n_add, lenOk_0, lenOk_1, lenOk_2, lenOk_3, lenOk_4, lenOk_5, lenOk_6, lenOk_7, lenOk_8, e0]
  rw [compGo_map (en2 := encB) (fun b => if decide (co side b < line) then some b else none)]
  · rfl
  · intro b _
    simp only [q_wipeR_1, q_wipeR_2, q_asg_1, q_asg_2, q_asg_3, q_asg_4, q_asgR_1, q_ownedArg_1, q_ownedArgs_1, q_ownedArgs_2, q_itemsOf_1, q_itemsOf_2, q_evE_1, q_evE_2, q_evE_3, q_evE_4, q_evE_5, q_evE_6, q_evE_7, q_evE_8, q_evE_9, q_evE_10, q_evE_11, q_evE_12, q_evE_13, q_evE_14, q_evE_15, q_evE_16, q_evE_17, q_evE_18, q_evE_19, q_evE_20, q_evEs_1, q_evEs_2, q_evP_1, q_evP_2, q_evC_1, q_evC_2, q_evI_1, q_evI_2, q_evRet_1, q_evS_1, q_evS_2, q_evS_3, q_evS_4, q_evS_5, q_evS_6, q_evS_7, q_evS_8, q_evS_9, q_evS_10, q_evS_11, q_evS_12, q_evS_13, q_evS_14, q_evS_15, q_evS_16, q_evSs_1, q_evSs_2, q_oa_0, q_rt_0, q_oa_1, q_rt_1, q_oa_2, q_rt_2, q_oa_3, q_rt_3, q_oa_4, q_rt_4, q_oa_5, q_rt_5, q_oa_6, q_rt_6, q_oa_7, q_rt_7, q_oa_8, q_rt_8, q_oa_9, q_rt_9, q_oa_10, q_rt_10, q_oa_11, q_rt_11, q_oa_12, q_rt_12, q_oa_13, q_rt_13, q_oa_14, q_rt_14, q_oa_15, q_rt_15, q_oa_16, q_rt_16, q_oa_17, q_rt_17, q_ar_0, q_ar_1, q_ar_2, asI_N, asI_i, q_l2, q_l3, q_l4, q_l5, q_l6, q_l7, q_l8, q_l9, q_l10, q_l11, q_l12, q_l13, q_ret, q_bind, q_bindn, q_map, q_mapn, q_one, q_zero, q_evT, q_own, evNeg, startR, List.getElem?_cons_succ, List.getElem?_cons_zero, List.set_cons_succ, List.set_cons_zero, List.map_cons, List.map_nil, List.replicate, List.length_cons, List.length_nil, List.append_eq, List.nil_append, List.cons_append, Bool.and_true, Bool.true_and, Bool.and_false, Bool.false_and, Bool.not_true, Bool.not_false, if_true, if_false, reduceCtorEq, Nat.reduceSub, Nat.reduceAdd, Nat.reduceLeDiff, Bool.false_eq_true, Bool.or_false, Bool.false_or, ite_true, ite_false, n_add, lenOk_0, lenOk_1, lenOk_2, lenOk_3, lenOk_4, lenOk_5, lenOk_6, lenOk_7, lenOk_8, ix_co h, n_lt]
    cases decide (co side b < line) <;> simp only [q_wipeR_1, q_wipeR_2, q_asg_1, q_asg_2, q_asg_3, q_asg_4, q_asgR_1, q_ownedArg_1, q_ownedArgs_1, q_ownedArgs_2, q_itemsOf_1, q_itemsOf_2, q_evE_1, q_evE_2, q_evE_3, q_evE_4, q_evE_5, q_evE_6, q_evE_7, q_evE_8, q_evE_9, q_evE_10, q_evE_11, q_evE_12, q_evE_13, q_evE_14, q_evE_15, q_evE_16, q_evE_17, q_evE_18, q_evE_19, q_evE_20, q_evEs_1, q_evEs_2, q_evP_1, q_evP_2, q_evC_1, q_evC_2, q_evI_1, q_evI_2, q_evRet_1, q_evS_1, q_evS_2, q_evS_3, q_evS_4, q_evS_5, q_evS_6, q_evS_7, q_evS_8, q_evS_9, q_evS_10, q_evS_11, q_evS_12, q_evS_13, q_evS_14, q_evS_15, q_evS_16, q_evSs_1, q_evSs_2, q_oa_0, q_rt_0, q_oa_1, q_rt_1, q_oa_2, q_rt_2, q_oa_3, q_rt_3, q_oa_4, q_rt_4, q_oa_5, q_rt_5, q_oa_6, q_rt_6, q_oa_7, q_rt_7, q_oa_8, q_rt_8, q_oa_9, q_rt_9, q_oa_10, q_rt_10, q_oa_11, q_rt_11, q_oa_12, q_rt_12, q_oa_13, q_rt_13, q_oa_14, q_rt_14, q_oa_15, q_rt_15, q_oa_16, q_rt_16, q_oa_17, q_rt_17, q_ar_0, q_ar_1, q_ar_2, asI_N, asI_i, q_l2, q_l3, q_l4, q_l5, q_l6, q_l7, q_l8, q_l9, q_l10, q_l11, q_l12, q_l13, q_ret, q_bind, q_bindn, q_map, q_mapn, q_one, q_zero, q_evT, q_own, evNeg, startR, List.getElem?_cons_succ, List.getElem?_cons_zero, List.set_cons_succ, List.set_cons_zero, List.map_cons, List.map_nil, List.replicate, List.length_cons, List.length_nil, List.append_eq, List.nil_append, List.cons_append, Bool.and_true, Bool.true_and, Bool.and_false, Bool.false_and, Bool.not_true, Bool.not_false, if_true, if_false, reduceCtorEq, Nat.reduceSub, Nat.reduceAdd, Nat.reduceLeDiff, Bool.false_eq_true, Bool.or_false, Bool.false_or, ite_true, ite_false, n_add, lenOk_0, lenOk_1, lenOk_2, lenOk_3, lenOk_4, lenOk_5, lenOk_6, lenOk_7, lenOk_8]
theorem pa_2 {way : List B} {side line : Nat} {d3 d4 : Option R} (h : side < 2) : evE ic_parts_at_2 false [some (false, encW way), sN side, sN line, d3, d4] = some (true, encW (uppers side line way)) := by
  unfold ic_parts_at_2
  have e0 : itemsOf (encW way) = some (way.map encB) := rfl
  simp only [q_wipeR_1, q_wipeR_2, q_asg_1, q_asg_2, q_asg_3, q_asg_4, q_asgR_1, q_ownedArg_1, q_ownedArgs_1, q_ownedArgs_2, q_itemsOf_1, q_itemsOf_2, q_evE_1, q_evE_2, q_evE_3, q_evE_4, q_evE_5, q_evE_6, q_evE_7, q_evE_8, q_evE_9, q_evE_10, q_evE_11, q_evE_12, q_evE_13, q_evE_14, q_evE_15, q_evE_16, q_evE_17, q_evE_18, q_evE_19, q_evE_20, q_evEs_1, q_evEs_2, q_evP_1, q_evP_2, q_evC_1, q_evC_2, q_evI_1, q_evI_2, q_evRet_1, q_evS_1, q_evS_2, q_evS_3, q_evS_4, q_evS_5, q_evS_6, q_evS_7, q_evS_8, q_evS_9, q_evS_10, q_evS_11, q_evS_12, q_evS_13, q_evS_14, q_evS_15, q_evS_16, q_evSs_1, q_evSs_2, q_oa_0, q_rt_0, q_oa_1, q_rt_1, q_oa_2, q_rt_2, q_oa_3, q_rt_3, q_oa_4, q_rt_4, q_oa_5, q_rt_5, q_oa_6, q_rt_6, q_oa_7, q_rt_7, q_oa_8, q_rt_8, q_oa_9, q_rt_9, q_oa_10, q_rt_10, q_oa_11, q_rt_11, q_oa_12, q_rt_12, q_oa_13, q_rt_13, q_oa_14, q_rt_14, q_oa_15, q_rt_15, q_oa_16, q_rt_16, q_oa_17, q_rt_17, q_ar_0, q_ar_1, q_ar_2, asI_N, asI_i, q_l2, q_l3, q_l4, q_l5, q_l6, q_l7, q_l8, q_l9, q_l10, q_l11, q_l12, q_l13, q_ret, q_bind, q_bindn, q_map, q_mapn, q_one, q_zero, q_evT, q_own, evNeg, startR, List.getElem?_cons_succ, List.getElem?_cons_zero, List.set_cons_succ, List.set_cons_zero, List.map_cons, List.map_nil, List.replicate, List.length_cons, List.length_nil, List.append_eq, List.nil_append, List.cons_append, Bool.and_true, Bool.true_and, Bool.and_false, Bool.false_and, Bool.not_true, Bool.not_false, if_true, if_false, reduceCtorEq, Nat.reduceSub, Nat.reduceAdd, Nat.reduceLeDiff, Bool.false_eq_true, Bool.or_false, Bool.false_or, ite_true, ite_false, n_add, lenOk_0, lenOk_1, lenOk_2, lenOk_3, lenOk_4, lenOk_5, lenOk_6, lenOk_7, lenOk_8, e0]
  rw [compGo_map (en2 := encB) (fun b => if decide (line ≤ co side b) then some b else none)]
  · rfl
  · intro b _
    simp only [q_wipeR_1, q_wipeR_2, q_asg_1, q_asg_2, q_asg_3, q_asg_4, q_asgR_1, q_ownedArg_1, q_ownedArgs_1, q_ownedArgs_2, q_itemsOf_1, q_itemsOf_2, q_evE_1, q_evE_2, q_evE_3, q_evE_4, q_evE_5, q_evE_6, q_evE_7, q_evE_8, q_evE_9, q_evE_10, q_evE_11, q_evE_12, q_evE_13, q_evE_14, q_evE_15, q_evE_16, q_evE_17, q_evE_18, q_evE_19, q_evE_20, q_evEs_1, q_evEs_2, q_evP_1, q_evP_2, q_evC_1, q_evC_2, q_evI_1, q_evI_2, q_evRet_1, q_evS_1, q_evS_2, q_evS_3, q_evS_4, q_evS_5, q_evS_6, q_evS_7, q_evS_8, q_evS_9, q_evS_10, q_evS_11, q_evS_12, q_evS_13, q_evS_14, q_evS_15, q_evS_16, q_evSs_1, q_evSs_2, q_oa_0, q_rt_0, q_oa_1, q_rt_1, q_oa_2, q_rt_2, q_oa_3, q_rt_3, q_oa_4, q_rt_4, q_oa_5, q_rt_5, q_oa_6, q_rt_6, q_oa_7, q_rt_7, q_oa_8, q_rt_8, q_oa_9, q_rt_9, q_oa_10, q_rt_10, q_oa_11, q_rt_11, q_oa_12, q_rt_12, q_oa_13, q_rt_13, q_oa_14, q_rt_14, q_oa_15, q_rt_15, q_oa_16, q_rt_16, q_oa_17, q_rt_17, q_ar_0, q_ar_1, q_ar_2, asI_N, asI_i, q_l2, q_l3, q_l4, q_l5, q_l6, q_l7, q_l8, q_l9, q_l10, q_l11, q_l12, q_l13, q_ret, q_bind, q_bindn, q_map, q_mapn, q_one, q_zero, q_evT, q_own, evNeg, startR, List.getElem?_cons_succ, List.getElem?_cons_zero, List.set_cons_succ, List.set_cons_zero, List.map_cons, List.map_nil, List.replicate, List.length_cons, List.length_nil, List.append_eq, List.nil_append, List.cons_append, Bool.and_true, Bool.true_and, Bool.and_false, Bool.false_and, Bool.not_true, Bool.not_false, if_true, if_false, reduceCtorEq, Nat.reduceSub, Nat.reduceAdd, Nat.reduceLeDiff, Bool.false_eq_true, Bool.or_false, Bool.false_or, ite_true, ite_false, n_add, lenOk_0, lenOk_1, lenOk_2, lenOk_3, lenOk_4, lenOk_5, lenOk_6, lenOk_7, lenOk_8, ix_co h, n_ge]
    cases decide (line ≤ co side b) <;> simp only [q_wipeR_1, q_wipeR_2, q_asg_1, q_asg_2, q_asg_3, q_asg_4, q_asgR_1, q_ownedArg_1, q_ownedArgs_1, q_ownedArgs_2, q_itemsOf_1, q_itemsOf_2, q_evE_1, q_evE_2, q_evE_3, q_evE_4, q_evE_5, q_evE_6, q_evE_7, q_evE_8, q_evE_9, q_evE_10, q_evE_11, q_evE_12, q_evE_13, q_evE_14, q_evE_15, q_evE_16, q_evE_17, q_evE_18, q_evE_19, q_evE_20, q_evEs_1, q_evEs_2, q_evP_1, q_evP_2, q_evC_1, q_evC_2, q_evI_1, q_evI_2, q_evRet_1, q_evS_1, q_evS_2, q_evS_3, q_evS_4, q_evS_5, q_evS_6, q_evS_7, q_evS_8, q_evS_9, q_evS_10, q_evS_11, q_evS_12, q_evS_13, q_evS_14, q_evS_15, q_evS_16, q_evSs_1, q_evSs_2, q_oa_0, q_rt_0, q_oa_1, q_rt_1, q_oa_2, q_rt_2, q_oa_3, q_rt_3, q_oa_4, q_rt_4, q_oa_5, q_rt_5, q_oa_6, q_rt_6, q_oa_7, q_rt_7, q_oa_8, q_rt_8, q_oa_9, q_rt_9, q_oa_10, q_rt_10, q_oa_11, q_rt_11, q_oa_12, q_rt_12, q_oa_13, q_rt_13, q_oa_14, q_rt_14, q_oa_15, q_rt_15, q_oa_16, q_rt_16, q_oa_17, q_rt_17, q_ar_0, q_ar_1, q_ar_2, asI_N, asI_i, q_l2, q_l3, q_l4, q_l5, q_l6, q_l7, q_l8, q_l9, q_l10, q_l11, q_l12, q_l13, q_ret, q_bind, q_bindn, q_map, q_mapn, q_one, q_zero, q_evT, q_own, evNeg, startR, List.getElem?_cons_succ, List.getElem?_cons_zero, List.set_cons_succ, List.set_cons_zero, List.map_cons, List.map_nil, List.replicate, List.length_cons, List.length_nil, List.append_eq, List.nil_append, List.cons_append, Bool.and_true, Bool.true_and, Bool.and_false, Bool.false_and, Bool.not_true, Bool.not_false, if_true, if_false, reduceCtorEq, Nat.reduceSub, Nat.reduceAdd, Nat.reduceLeDiff, Bool.false_eq_true, Bool.or_false, Bool.false_or, ite_true, ite_false, n_add, lenOk_0, lenOk_1, lenOk_2, lenOk_3, lenOk_4, lenOk_5, lenOk_6, lenOk_7, lenOk_8]
theorem parts_at_is {way : List B} {side line : Nat} (h : side < 2) : f_parts_at [encW way, N side, N line] = some (false, .tuple [encW (lowers side line way), encW (uppers side line way)]) := by
  unfold f_parts_at evDef ir_parts_at
  simp only [q_wipeR_1, q_wipeR_2, q_asg_1, q_asg_2, q_asg_3, q_asg_4, q_asgR_1, q_ownedArg_1, q_ownedArgs_1, q_ownedArgs_2, q_itemsOf_1, q_itemsOf_2, q_evE_1, q_evE_2, q_evE_3, q_evE_4, q_evE_5, q_evE_6, q_evE_7, q_evE_8, q_evE_9, q_evE_10, q_evE_11, q_evE_12, q_evE_13, q_evE_14, q_evE_15, q_evE_16, q_evE_17, q_evE_18, q_evE_19, q_evE_20, q_evEs_1, q_evEs_2, q_evP_1, q_evP_2, q_evC_1, q_evC_2, q_evI_1, q_evI_2, q_evRet_1, q_evS_1, q_evS_2, q_evS_3, q_evS_4, q_evS_5, q_evS_6, q_evS_7, q_evS_8, q_evS_9, q_evS_10, q_evS_11, q_evS_12, q_evS_13, q_evS_14, q_evS_15, q_evS_16, q_evSs_1, q_evSs_2, q_oa_0, q_rt_0, q_oa_1, q_rt_1, q_oa_2, q_rt_2, q_oa_3, q_rt_3, q_oa_4, q_rt_4, q_oa_5, q_rt_5, q_oa_6, q_rt_6, q_oa_7, q_rt_7, q_oa_8, q_rt_8, q_oa_9, q_rt_9, q_oa_10, q_rt_10, q_oa_11, q_rt_11, q_oa_12, q_rt_12, q_oa_13, q_rt_13, q_oa_14, q_rt_14, q_oa_15, q_rt_15, q_oa_16, q_rt_16, q_oa_17, q_rt_17, q_ar_0, q_ar_1, q_ar_2, asI_N, asI_i, q_l2, q_l3, q_l4, q_l5, q_l6, q_l7, q_l8, q_l9, q_l10, q_l11, q_l12, q_l13, q_ret, q_bind, q_bindn, q_map, q_mapn, q_one, q_zero, q_evT, q_own, evNeg, startR, List.getElem?_cons_succ, List.getElem?_cons_zero, List.set_cons_succ, List.set_cons_zero, List.map_cons, List.map_nil, List.replicate, List.length_cons, List.length_nil, List.append_eq, List.nil_append, List.cons_append, Bool.and_true, Bool.true_and, Bool.and_false, Bool.false_and, Bool.not_true, Bool.not_false, if_true, if_false, reduceCtorEq, Nat.reduceSub, Nat.reduceAdd, Nat.reduceLeDiff, Bool.false_eq_true, Bool.or_false, Bool.false_or, ite_true, ite_false, n_add, lenOk_0, lenOk_1, lenOk_2, lenOk_3, lenOk_4, lenOk_5, lenOk_6, lenOk_7, lenOk_8, pa_1 h, pa_2 h]
theorem fc_1 {way : List B} {side : Nat} {d2 d3 d4 : Option R} (b : Bool) (h : side < 2) : evE ic_first_clear_1 b [some (false, encW way), sN side, d2, d3, d4] = some (true, .list ((way.map (co side)).map N)) := by
  unfold ic_first_clear_1
  have e0 : itemsOf (encW way) = some (way.map encB) := rfl
  simp only [q_wipeR_1, q_wipeR_2, q_asg_1, q_asg_2, q_asg_3, q_asg_4, q_asgR_1, q_ownedArg_1, q_ownedArgs_1, q_ownedArgs_2, q_itemsOf_1, q_itemsOf_2, q_evE_1, q_evE_2, q_evE_3, q_evE_4, q_evE_5, q_evE_6, q_evE_7, q_evE_8, q_evE_9, q_evE_10, q_evE_11, q_evE_12, q_evE_13, q_evE_14, q_evE_15, q_evE_16, q_evE_17, q_evE_18, q_evE_19, q_evE_20, q_evEs_1, q_evEs_2, q_evP_1, q_evP_2, q_evC_1, q_evC_2, q_evI_1, q_evI_2, q_evRet_1, q_evS_1, q_evS_2, q_evS_3, q_evS_4, q_evS_5, q_evS_6, q_evS_7, q_evS_8, q_evS_9, q_evS_10, q_evS_11, q_evS_12, q_evS_13, q_evS_14, q_evS_15, q_evS_16, q_evSs_1, q_evSs_2, q_oa_0, q_rt_0, q_oa_1, q_rt_1, q_oa_2, q_rt_2, q_oa_3, q_rt_3, q_oa_4, q_rt_4, q_oa_5, q_rt_5, q_oa_6, q_rt_6, q_oa_7, q_rt_7, q_oa_8, q_rt_8, q_oa_9, q_rt_9, q_oa_10, q_rt_10, q_oa_11, q_rt_11, q_oa_12, q_rt_12, q_oa_13, q_rt_13, q_oa_14, q_rt_14, q_oa_15, q_rt_15, q_oa_16, q_rt_16, q_oa_17, q_rt_17, q_ar_0, q_ar_1, q_ar_2, asI_N, asI_i, q_l2, q_l3, q_l4, q_l5, q_l6, q_l7, q_l8, q_l9, q_l10, q_l11, q_l12, q_l13, q_ret, q_bind, q_bindn, q_map, q_mapn, q_one, q_zero, q_evT, q_own, evNeg, startR, List.getElem?_cons_succ, List.getElem?_cons_zero, List.set_cons_succ, List.set_cons_zero, List.map_cons, List.map_nil, List.replicate, List.length_cons, List.length_nil, List.append_eq, List.nil_append, List.cons_append, Bool.and_true, Bool.true_and, Bool.and_false, Bool.false_and, Bool.not_true, Bool.not_false, if_true, if_false, reduceCtorEq, Nat.reduceSub, Nat.reduceAdd, Nat.reduceLeDiff, Bool.false_eq_true, Bool.or_false, Bool.false_or, ite_true, ite_false, n_add, lenOk_0, lenOk_1, lenOk_2, lenOk_3, lenOk_4, lenOk_5, lenOk_6, lenOk_7, lenOk_8, e0]
  rw [compGo_map (en2 := N) (fun b => some (co side b)), filterMap_some]
  · simp only [q_wipeR_1, q_wipeR_2, q_asg_1, q_asg_2, q_asg_3, q_asg_4, q_asgR_1, q_ownedArg_1, q_ownedArgs_1, q_ownedArgs_2, q_itemsOf_1, q_itemsOf_2, q_evE_1, q_evE_2, q_evE_3, q_evE_4, q_evE_5, q_evE_6, q_evE_7, q_evE_8, q_evE_9, q_evE_10, q_evE_11, q_evE_12, q_evE_13, q_evE_14, q_evE_15, q_evE_16, q_evE_17, q_evE_18, q_evE_19, q_evE_20, q_evEs_1, q_evEs_2, q_evP_1, q_evP_2, q_evC_1, q_evC_2, q_evI_1, q_evI_2, q_evRet_1, q_evS_1, q_evS_2, q_evS_3, q_evS_4, q_evS_5, q_evS_6, q_evS_7, q_evS_8, q_evS_9, q_evS_10, q_evS_11, q_evS_12, q_evS_13, q_evS_14, q_evS_15, q_evS_16, q_evSs_1, q_evSs_2, q_oa_0, q_rt_0, q_oa_1, q_rt_1, q_oa_2, q_rt_2, q_oa_3, q_rt_3, q_oa_4, q_rt_4, q_oa_5, q_rt_5, q_oa_6, q_rt_6, q_oa_7, q_rt_7, q_oa_8, q_rt_8, q_oa_9, q_rt_9, q_oa_10, q_rt_10, q_oa_11, q_rt_11, q_oa_12, q_rt_12, q_oa_13, q_rt_13, q_oa_14, q_rt_14, q_oa_15, q_rt_15, q_oa_16, q_rt_16, q_oa_17, q_rt_17, q_ar_0, q_ar_1, q_ar_2, asI_N, asI_i, q_l2, q_l3, q_l4, q_l5, q_l6, q_l7, q_l8, q_l9, q_l10, q_l11, q_l12, q_l13, q_ret, q_bind, q_bindn, q_map, q_mapn, q_one, q_zero, q_evT, q_own, evNeg, startR, List.getElem?_cons_succ, List.getElem?_cons_zero, List.set_cons_succ, List.set_cons_zero, List.map_cons, List.map_nil, List.replicate, List.length_cons, List.length_nil, List.append_eq, List.nil_append, List.cons_append, Bool.and_true, Bool.true_and, Bool.and_false, Bool.false_and, Bool.not_true, Bool.not_false, if_true, if_false, reduceCtorEq, Nat.reduceSub, Nat.reduceAdd, Nat.reduceLeDiff, Bool.false_eq_true, Bool.or_false, Bool.false_or, ite_true, ite_false, n_add, lenOk_0, lenOk_1, lenOk_2, lenOk_3, lenOk_4, lenOk_5, lenOk_6, lenOk_7, lenOk_8]
  · intro b _
    simp only [q_wipeR_1, q_wipeR_2, q_asg_1, q_asg_2, q_asg_3, q_asg_4, q_asgR_1, q_ownedArg_1, q_ownedArgs_1, q_ownedArgs_2, q_itemsOf_1, q_itemsOf_2, q_evE_1, q_evE_2, q_evE_3, q_evE_4, q_evE_5, q_evE_6, q_evE_7, q_evE_8, q_evE_9, q_evE_10, q_evE_11, q_evE_12, q_evE_13, q_evE_14, q_evE_15, q_evE_16, q_evE_17, q_evE_18, q_evE_19, q_evE_20, q_evEs_1, q_evEs_2, q_evP_1, q_evP_2, q_evC_1, q_evC_2, q_evI_1, q_evI_2, q_evRet_1, q_evS_1, q_evS_2, q_evS_3, q_evS_4, q_evS_5, q_evS_6, q_evS_7, q_evS_8, q_evS_9, q_evS_10, q_evS_11, q_evS_12, q_evS_13, q_evS_14, q_evS_15, q_evS_16, q_evSs_1, q_evSs_2, q_oa_0, q_rt_0, q_oa_1, q_rt_1, q_oa_2, q_rt_2, q_oa_3, q_rt_3, q_oa_4, q_rt_4, q_oa_5, q_rt_5, q_oa_6, q_rt_6, q_oa_7, q_rt_7, q_oa_8, q_rt_8, q_oa_9, q_rt_9, q_oa_10, q_rt_10, q_oa_11, q_rt_11, q_oa_12, q_rt_12, q_oa_13, q_rt_13, q_oa_14, q_rt_14, q_oa_15, q_rt_15, q_oa_16, q_rt_16, q_oa_17, q_rt_17, q_ar_0, q_ar_1, q_ar_2, asI_N, asI_i, q_l2, q_l3, q_l4, q_l5, q_l6, q_l7, q_l8, q_l9, q_l10, q_l11, q_l12, q_l13, q_ret, q_bind, q_bindn, q_map, q_mapn, q_one, q_zero, q_evT, q_own, evNeg, startR, List.getElem?_cons_succ, List.getElem?_cons_zero, List.set_cons_succ, List.set_cons_zero, List.map_cons, List.map_nil, List.replicate, List.length_cons, List.length_nil, List.append_eq, List.nil_append, List.cons_append, Bool.and_true, Bool.true_and, Bool.and_false, Bool.false_and, Bool.not_true, Bool.not_false, if_true, if_false, reduceCtorEq, Nat.reduceSub, Nat.reduceAdd, Nat.reduceLeDiff, Bool.false_eq_true, Bool.or_false, Bool.false_or, ite_true, ite_false, n_add, lenOk_0, lenOk_1, lenOk_2, lenOk_3, lenOk_4, lenOk_5, lenOk_6, lenOk_7, lenOk_8, ix_co h]
def leastOf (side : Nat) (way : List B) : Nat := match way.map (co side) with
  | [] => 0
  | x :: l => minN x l
def goodLine (way : List B) (side : Nat) (line : Nat) : Bool := decide (leastOf side way < line) && clear way side line
def fcSide (way : List B) (side : Nat) : Option Nat := (sortN (dedupN (way.map (co side)))).find? (goodLine way side)
def firstClear (way : List B) : Option (Nat × Nat) := match fcSide way 0 with
  | some line => some (0, line)
  | none => match fcSide way 1 with
    | some line => some (1, line)
    | none => none
theorem fc_body {way : List B} {side line : Nat} {j3 : Option R} (h : side < 2) : blk FUEL ib_first_clear_3 [some (false, encW way), sN side, sN (leastOf side way), j3, sN line] = if goodLine way side line then some (.rt (false, .tuple [N side, N line])) else some (.nx [some (false, encW way), sN side, sN (leastOf side way), j3, sN line]) := by
  unfold blk ib_first_clear_3 goodLine
  simp only [q_wipeR_1, q_wipeR_2, q_asg_1, q_asg_2, q_asg_3, q_asg_4, q_asgR_1, q_ownedArg_1, q_ownedArgs_1, q_ownedArgs_2, q_itemsOf_1, q_itemsOf_2, q_evE_1, q_evE_2, q_evE_3, q_evE_4, q_evE_5, q_evE_6, q_evE_7, q_evE_8, q_evE_9, q_evE_10, q_evE_11, q_evE_12, q_evE_13, q_evE_14, q_evE_15, q_evE_16, q_evE_17, q_evE_18, q_evE_19, q_evE_20, q_evEs_1, q_evEs_2, q_evP_1, q_evP_2, q_evC_1, q_evC_2, q_evI_1, q_evI_2, q_evRet_1, q_evS_1, q_evS_2, q_evS_3, q_evS_4, q_evS_5, q_evS_6, q_evS_7, q_evS_8, q_evS_9, q_evS_10, q_evS_11, q_evS_12, q_evS_13, q_evS_14, q_evS_15, q_evS_16, q_evSs_1, q_evSs_2, q_oa_0, q_rt_0, q_oa_1, q_rt_1, q_oa_2, q_rt_2, q_oa_3, q_rt_3, q_oa_4, q_rt_4, q_oa_5, q_rt_5, q_oa_6, q_rt_6, q_oa_7, q_rt_7, q_oa_8, q_rt_8, q_oa_9, q_rt_9, q_oa_10, q_rt_10, q_oa_11, q_rt_11, q_oa_12, q_rt_12, q_oa_13, q_rt_13, q_oa_14, q_rt_14, q_oa_15, q_rt_15, q_oa_16, q_rt_16, q_oa_17, q_rt_17, q_ar_0, q_ar_1, q_ar_2, asI_N, asI_i, q_l2, q_l3, q_l4, q_l5, q_l6, q_l7, q_l8, q_l9, q_l10, q_l11, q_l12, q_l13, q_ret, q_bind, q_bindn, q_map, q_mapn, q_one, q_zero, q_evT, q_own, evNeg, startR, List.getElem?_cons_succ, List.getElem?_cons_zero, List.set_cons_succ, List.set_cons_zero, List.map_cons, List.map_nil, List.replicate, List.length_cons, List.length_nil, List.append_eq, List.nil_append, List.cons_append, Bool.and_true, Bool.true_and, Bool.and_false, Bool.false_and, Bool.not_true, Bool.not_false, if_true, if_false, reduceCtorEq, Nat.reduceSub, Nat.reduceAdd, Nat.reduceLeDiff, Bool.false_eq_true, Bool.or_false, Bool.false_or, ite_true, ite_false, n_add, lenOk_0, lenOk_1, lenOk_2, lenOk_3, lenOk_4, lenOk_5, lenOk_6, lenOk_7, lenOk_8, n_gt]
  cases decide (leastOf side way < line) <;> simp only [q_wipeR_1, q_wipeR_2, q_asg_1, q_asg_2, q_asg_3, q_asg_4, q_asgR_1, q_ownedArg_1, q_ownedArgs_1, q_ownedArgs_2, q_itemsOf_1, q_itemsOf_2, q_evE_1, q_evE_2, q_evE_3, q_evE_4, q_evE_5, q_evE_6, q_evE_7, q_evE_8, q_evE_9, q_evE_10, q_evE_11, q_evE_12, q_evE_13, q_evE_14, q_evE_15, q_evE_16, q_evE_17, q_evE_18, q_evE_19, q_evE_20, q_evEs_1, q_evEs_2, q_evP_1, q_evP_2, q_evC_1, q_evC_2, q_evI_1, q_evI_2, q_evRet_1, q_evS_1, q_evS_2, q_evS_3, q_evS_4, q_evS_5, q_evS_6, q_evS_7, q_evS_8, q_evS_9, q_evS_10, q_evS_11, q_evS_12, q_evS_13, q_evS_14, q_evS_15, q_evS_16, q_evSs_1, q_evSs_2, q_oa_0, q_rt_0, q_oa_1, q_rt_1, q_oa_2, q_rt_2, q_oa_3, q_rt_3, q_oa_4, q_rt_4, q_oa_5, q_rt_5, q_oa_6, q_rt_6, q_oa_7, q_rt_7, q_oa_8, q_rt_8, q_oa_9, q_rt_9, q_oa_10, q_rt_10, q_oa_11, q_rt_11, q_oa_12, q_rt_12, q_oa_13, q_rt_13, q_oa_14, q_rt_14, q_oa_15, q_rt_15, q_oa_16, q_rt_16, q_oa_17, q_rt_17, q_ar_0, q_ar_1, q_ar_2, asI_N, asI_i, q_l2, q_l3, q_l4, q_l5, q_l6, q_l7, q_l8, q_l9, q_l10, q_l11, q_l12, q_l13, q_ret, q_bind, q_bindn, q_map, q_mapn, q_one, q_zero, q_evT, q_own, evNeg, startR, List.getElem?_cons_succ, List.getElem?_cons_zero, List.set_cons_succ, List.set_cons_zero, List.map_cons, List.map_nil, List.replicate, List.length_cons, List.length_nil, List.append_eq, List.nil_append, List.cons_append, Bool.and_true, Bool.true_and, Bool.and_false, Bool.false_and, Bool.not_true, Bool.not_false, if_true, if_false, reduceCtorEq, Nat.reduceSub, Nat.reduceAdd, Nat.reduceLeDiff, Bool.false_eq_true, Bool.or_false, Bool.false_or, ite_true, ite_false, n_add, lenOk_0, lenOk_1, lenOk_2, lenOk_3, lenOk_4, lenOk_5, lenOk_6, lenOk_7, lenOk_8, is_clear_is h]
  cases clear way side line <;> simp only [q_wipeR_1, q_wipeR_2, q_asg_1, q_asg_2, q_asg_3, q_asg_4, q_asgR_1, q_ownedArg_1, q_ownedArgs_1, q_ownedArgs_2, q_itemsOf_1, q_itemsOf_2, q_evE_1, q_evE_2, q_evE_3, q_evE_4, q_evE_5, q_evE_6, q_evE_7, q_evE_8, q_evE_9, q_evE_10, q_evE_11, q_evE_12, q_evE_13, q_evE_14, q_evE_15, q_evE_16, q_evE_17, q_evE_18, q_evE_19, q_evE_20, q_evEs_1, q_evEs_2, q_evP_1, q_evP_2, q_evC_1, q_evC_2, q_evI_1, q_evI_2, q_evRet_1, q_evS_1, q_evS_2, q_evS_3, q_evS_4, q_evS_5, q_evS_6, q_evS_7, q_evS_8, q_evS_9, q_evS_10, q_evS_11, q_evS_12, q_evS_13, q_evS_14, q_evS_15, q_evS_16, q_evSs_1, q_evSs_2, q_oa_0, q_rt_0, q_oa_1, q_rt_1, q_oa_2, q_rt_2, q_oa_3, q_rt_3, q_oa_4, q_rt_4, q_oa_5, q_rt_5, q_oa_6, q_rt_6, q_oa_7, q_rt_7, q_oa_8, q_rt_8, q_oa_9, q_rt_9, q_oa_10, q_rt_10, q_oa_11, q_rt_11, q_oa_12, q_rt_12, q_oa_13, q_rt_13, q_oa_14, q_rt_14, q_oa_15, q_rt_15, q_oa_16, q_rt_16, q_oa_17, q_rt_17, q_ar_0, q_ar_1, q_ar_2, asI_N, asI_i, q_l2, q_l3, q_l4, q_l5, q_l6, q_l7, q_l8, q_l9, q_l10, q_l11, q_l12, q_l13, q_ret, q_bind, q_bindn, q_map, q_mapn, q_one, q_zero, q_evT, q_own, evNeg, startR, List.getElem?_cons_succ, List.getElem?_cons_zero, List.set_cons_succ, List.set_cons_zero, List.map_cons, List.map_nil, List.replicate, List.length_cons, List.length_nil, List.append_eq, List.nil_append, List.cons_append, Bool.and_true, Bool.true_and, Bool.and_false, Bool.false_and, Bool.not_true, Bool.not_false, if_true, if_false, reduceCtorEq, Nat.reduceSub, Nat.reduceAdd, Nat.reduceLeDiff, Bool.false_eq_true, Bool.or_false, Bool.false_or, ite_true, ite_false, n_add, lenOk_0, lenOk_1, lenOk_2, lenOk_3, lenOk_4, lenOk_5, lenOk_6, lenOk_7, lenOk_8]
theorem fc_loop {way : List B} {side : Nat} {j3 : Option R} (h : side < 2) : ∀ (l : List Nat) (j4 : Option R), ∃ j4', forGo (.nm 4) (blk FUEL ib_first_clear_3) (l.map N) [some (false, encW way), sN side, sN (leastOf side way), j3, j4] = match l.find? (goodLine way side) with
    | some line => some (.rt (false, .tuple [N side, N line]))
    | none => some (.nx [some (false, encW way), sN side, sN (leastOf side way), j3, j4'])
  | [], j => ⟨j, rfl⟩
  | x :: l, j => by
    obtain ⟨j', ih⟩ := fc_loop (way := way) (j3 := j3) h l (sN x)
    refine ⟨j', ?_⟩
    have e := fc_body (way := way) (line := x) (j3 := j3) h
    rw [List.map_cons, List.find?_cons]
    cases he : goodLine way side x with
    | false => rw [he] at e; exact (fr_nx (ρ1 := [some (false, encW way), sN side, sN (leastOf side way), j3, sN x]) rfl e).trans ih
    | true => rw [he] at e; exact fr_rt (ρ1 := [some (false, encW way), sN side, sN (leastOf side way), j3, sN x]) rfl e
theorem fc_side {way : List B} {side : Nat} {j2 j3 j4 : Option R} (h : side < 2) (h0 : way ≠ []) (h64 : way.length < 64) : ∃ j2' j4', blk FUEL ib_first_clear_4 [some (false, encW way), sN side, j2, j3, j4] = match fcSide way side with
    | some line => some (.rt (false, .tuple [N side, N line]))
    | none => some (.nx [some (false, encW way), sN side, j2', j3, j4']) := by
  obtain ⟨j', e⟩ := fc_loop (way := way) (j3 := j3) h (sortN (dedupN (way.map (co side)))) j4
  refine ⟨sN (leastOf side way), j', ?_⟩
  have e1 : evBI .min [.list ((way.map (co side)).map N)] = some (false, N (leastOf side way)) := by
    unfold leastOf
    cases way with
    | nil => exact absurd rfl h0
    | cons b l => rw [List.map_cons, n_min]
  have e2 : evBI .sortedSet [.list ((way.map (co side)).map N)] = some (true, .list ((sortN (dedupN (way.map (co side)))).map N)) := n_sset (by rw [List.length_map]; exact h64)
  have e3 : ∀ (b : Bool) (d2 d3 d4 : Option R), evE ic_first_clear_2 b [some (false, encW way), sN side, d2, d3, d4] = some (true, .list ((way.map (co side)).map N)) := fun b _ _ _ => fc_1 b h
  unfold blk ib_first_clear_4
  simp only [q_wipeR_1, q_wipeR_2, q_asg_1, q_asg_2, q_asg_3, q_asg_4, q_asgR_1, q_ownedArg_1, q_ownedArgs_1, q_ownedArgs_2, q_itemsOf_1, q_itemsOf_2, q_evE_1, q_evE_2, q_evE_3, q_evE_4, q_evE_5, q_evE_6, q_evE_7, q_evE_8, q_evE_9, q_evE_10, q_evE_11, q_evE_12, q_evE_13, q_evE_14, q_evE_15, q_evE_16, q_evE_17, q_evE_18, q_evE_19, q_evE_20, q_evEs_1, q_evEs_2, q_evP_1, q_evP_2, q_evC_1, q_evC_2, q_evI_1, q_evI_2, q_evRet_1, q_evS_1, q_evS_2, q_evS_3, q_evS_4, q_evS_5, q_evS_6, q_evS_7, q_evS_8, q_evS_9, q_evS_10, q_evS_11, q_evS_12, q_evS_13, q_evS_14, q_evS_15, q_evS_16, q_evSs_1, q_evSs_2, q_oa_0, q_rt_0, q_oa_1, q_rt_1, q_oa_2, q_rt_2, q_oa_3, q_rt_3, q_oa_4, q_rt_4, q_oa_5, q_rt_5, q_oa_6, q_rt_6, q_oa_7, q_rt_7, q_oa_8, q_rt_8, q_oa_9, q_rt_9, q_oa_10, q_rt_10, q_oa_11, q_rt_11, q_oa_12, q_rt_12, q_oa_13, q_rt_13, q_oa_14, q_rt_14, q_oa_15, q_rt_15, q_oa_16, q_rt_16, q_oa_17, q_rt_17, q_ar_0, q_ar_1, q_ar_2, asI_N, asI_i, q_l2, q_l3, q_l4, q_l5, q_l6, q_l7, q_l8, q_l9, q_l10, q_l11, q_l12, q_l13, q_ret, q_bind, q_bindn, q_map, q_mapn, q_one, q_zero, q_evT, q_own, evNeg, startR, List.getElem?_cons_succ, List.getElem?_cons_zero, List.set_cons_succ, List.set_cons_zero, List.map_cons, List.map_nil, List.replicate, List.length_cons, List.length_nil, List.append_eq, List.nil_append, List.cons_append, Bool.and_true, Bool.true_and, Bool.and_false, Bool.false_and, Bool.not_true, Bool.not_false, if_true, if_false, reduceCtorEq, Nat.reduceSub, Nat.reduceAdd, Nat.reduceLeDiff, Bool.false_eq_true, Bool.or_false, Bool.false_or, ite_true, ite_false, n_add, lenOk_0, lenOk_1, lenOk_2, lenOk_3, lenOk_4, lenOk_5, lenOk_6, lenOk_7, lenOk_8, fc_1 _ h, e1, e3, e2]
  rw [e]
  show _ = match (sortN (dedupN (way.map (co side)))).find? (goodLine way side) with
    | some line => some (Out.rt (false, .tuple [N side, N line]))
    | none => some (Out.nx [some (false, encW way), sN side, sN (leastOf side way), j3, j'])
  cases (sortN (dedupN (way.map (co side)))).find? (goodLine way side) <;> simp only [q_wipeR_1, q_wipeR_2, q_asg_1, q_asg_2, q_asg_3, q_asg_4, q_asgR_1, q_ownedArg_1, q_ownedArgs_1, q_ownedArgs_2, q_itemsOf_1, q_itemsOf_2, q_evE_1, q_evE_2, q_evE_3, q_evE_4, q_evE_5, q_evE_6, q_evE_7, q_evE_8, q_evE_9, q_evE_10, q_evE_11, q_evE_12, q_evE_13, q_evE_14, q_evE_15, q_evE_16, q_evE_17, q_evE_18, q_evE_19, q_evE_20, q_evEs_1, q_evEs_2, q_evP_1, q_evP_2, q_evC_1, q_evC_2, q_evI_1, q_evI_2, q_evRet_1, q_evS_1, q_evS_2, q_evS_3, q_evS_4, q_evS_5, q_evS_6, q_evS_7, q_evS_8, q_evS_9, q_evS_10, q_evS_11, q_evS_12, q_evS_13, q_evS_14, q_evS_15, q_evS_16, q_evSs_1, q_evSs_2, q_oa_0, q_rt_0, q_oa_1, q_rt_1, q_oa_2, q_rt_2, q_oa_3, q_rt_3, q_oa_4, q_rt_4, q_oa_5, q_rt_5, q_oa_6, q_rt_6, q_oa_7, q_rt_7, q_oa_8, q_rt_8, q_oa_9, q_rt_9, q_oa_10, q_rt_10, q_oa_11, q_rt_11, q_oa_12, q_rt_12, q_oa_13, q_rt_13, q_oa_14, q_rt_14, q_oa_15, q_rt_15, q_oa_16, q_rt_16, q_oa_17, q_rt_17, q_ar_0, q_ar_1, q_ar_2, asI_N, asI_i, q_l2, q_l3, q_l4, q_l5, q_l6, q_l7, q_l8, q_l9, q_l10, q_l11, q_l12, q_l13, q_ret, q_bind, q_bindn, q_map, q_mapn, q_one, q_zero, q_evT, q_own, evNeg, startR, List.getElem?_cons_succ, List.getElem?_cons_zero, List.set_cons_succ, List.set_cons_zero, List.map_cons, List.map_nil, List.replicate, List.length_cons, List.length_nil, List.append_eq, List.nil_append, List.cons_append, Bool.and_true, Bool.true_and, Bool.and_false, Bool.false_and, Bool.not_true, Bool.not_false, if_true, if_false, reduceCtorEq, Nat.reduceSub, Nat.reduceAdd, Nat.reduceLeDiff, Bool.false_eq_true, Bool.or_false, Bool.false_or, ite_true, ite_false, n_add, lenOk_0, lenOk_1, lenOk_2, lenOk_3, lenOk_4, lenOk_5, lenOk_6, lenOk_7, lenOk_8]
def encO : Option (Nat × Nat) → PyData
  | some (a, b) => .tuple [N a, N b]
  | none => .none
theorem first_clear_is {way : List B} (h0 : way ≠ []) (h64 : way.length < 64) : f_first_clear [encW way] = some (false, encO (firstClear way)) := by
  obtain ⟨a2, a4, e0⟩ := fc_side (way := way) (side := 0) (j2 := none) (j3 := none) (j4 := none) (by decide) h0 h64
  obtain ⟨b2, b4, e1⟩ := fc_side (way := way) (side := 1) (j2 := a2) (j3 := none) (j4 := a4) (by decide) h0 h64
  unfold f_first_clear evDef ir_first_clear
  have er : List.map N (List.range 2) = [N 0, N 1] := rfl
  simp only [q_wipeR_1, q_wipeR_2, q_asg_1, q_asg_2, q_asg_3, q_asg_4, q_asgR_1, q_ownedArg_1, q_ownedArgs_1, q_ownedArgs_2, q_itemsOf_1, q_itemsOf_2, q_evE_1, q_evE_2, q_evE_3, q_evE_4, q_evE_5, q_evE_6, q_evE_7, q_evE_8, q_evE_9, q_evE_10, q_evE_11, q_evE_12, q_evE_13, q_evE_14, q_evE_15, q_evE_16, q_evE_17, q_evE_18, q_evE_19, q_evE_20, q_evEs_1, q_evEs_2, q_evP_1, q_evP_2, q_evC_1, q_evC_2, q_evI_1, q_evI_2, q_evRet_1, q_evS_1, q_evS_2, q_evS_3, q_evS_4, q_evS_5, q_evS_6, q_evS_7, q_evS_8, q_evS_9, q_evS_10, q_evS_11, q_evS_12, q_evS_13, q_evS_14, q_evS_15, q_evS_16, q_evSs_1, q_evSs_2, q_oa_0, q_rt_0, q_oa_1, q_rt_1, q_oa_2, q_rt_2, q_oa_3, q_rt_3, q_oa_4, q_rt_4, q_oa_5, q_rt_5, q_oa_6, q_rt_6, q_oa_7, q_rt_7, q_oa_8, q_rt_8, q_oa_9, q_rt_9, q_oa_10, q_rt_10, q_oa_11, q_rt_11, q_oa_12, q_rt_12, q_oa_13, q_rt_13, q_oa_14, q_rt_14, q_oa_15, q_rt_15, q_oa_16, q_rt_16, q_oa_17, q_rt_17, q_ar_0, q_ar_1, q_ar_2, asI_N, asI_i, q_l2, q_l3, q_l4, q_l5, q_l6, q_l7, q_l8, q_l9, q_l10, q_l11, q_l12, q_l13, q_ret, q_bind, q_bindn, q_map, q_mapn, q_one, q_zero, q_evT, q_own, evNeg, startR, List.getElem?_cons_succ, List.getElem?_cons_zero, List.set_cons_succ, List.set_cons_zero, List.map_cons, List.map_nil, List.replicate, List.length_cons, List.length_nil, List.append_eq, List.nil_append, List.cons_append, Bool.and_true, Bool.true_and, Bool.and_false, Bool.false_and, Bool.not_true, Bool.not_false, if_true, if_false, reduceCtorEq, Nat.reduceSub, Nat.reduceAdd, Nat.reduceLeDiff, Bool.false_eq_true, Bool.or_false, Bool.false_or, ite_true, ite_false, n_add, lenOk_0, lenOk_1, lenOk_2, lenOk_3, lenOk_4, lenOk_5, lenOk_6, lenOk_7, lenOk_8, n_rng1 (show 2 ≤ 1000000 by decide), er]
  unfold firstClear
  cases c0 : fcSide way 0 with
  | some line =>
    rw [c0] at e0
    rw [fr_rt (ρ1 := [some (false, encW way), sN 0, none, none, none]) rfl e0]
    simp only [q_wipeR_1, q_wipeR_2, q_asg_1, q_asg_2, q_asg_3, q_asg_4, q_asgR_1, q_ownedArg_1, q_ownedArgs_1, q_ownedArgs_2, q_itemsOf_1, q_itemsOf_2, q_evE_1, q_evE_2, q_evE_3, q_evE_4, q_evE_5, q_evE_6, q_evE_7, q_evE_8, q_evE_9, q_evE_10, q_evE_11, q_evE_12, q_evE_13, q_evE_14, q_evE_15, q_evE_16, q_evE_17, q_evE_18, q_evE_19, q_evE_20, q_evEs_1, q_evEs_2, q_evP_1, q_evP_2, q_evC_1, q_evC_2, q_evI_1, q_evI_2, q_evRet_1, q_evS_1, q_evS_2, q_evS_3, q_evS_4, q_evS_5, q_evS_6, q_evS_7, q_evS_8, q_evS_9, q_evS_10, q_evS_11, q_evS_12, q_evS_13, q_evS_14, q_evS_15, q_evS_16, q_evSs_1, q_evSs_2, q_oa_0, q_rt_0, q_oa_1, q_rt_1, q_oa_2, q_rt_2, q_oa_3, q_rt_3, q_oa_4, q_rt_4, q_oa_5, q_rt_5, q_oa_6, q_rt_6, q_oa_7, q_rt_7, q_oa_8, q_rt_8, q_oa_9, q_rt_9, q_oa_10, q_rt_10, q_oa_11, q_rt_11, q_oa_12, q_rt_12, q_oa_13, q_rt_13, q_oa_14, q_rt_14, q_oa_15, q_rt_15, q_oa_16, q_rt_16, q_oa_17, q_rt_17, q_ar_0, q_ar_1, q_ar_2, asI_N, asI_i, q_l2, q_l3, q_l4, q_l5, q_l6, q_l7, q_l8, q_l9, q_l10, q_l11, q_l12, q_l13, q_ret, q_bind, q_bindn, q_map, q_mapn, q_one, q_zero, q_evT, q_own, evNeg, startR, List.getElem?_cons_succ, List.getElem?_cons_zero, List.set_cons_succ, List.set_cons_zero, List.map_cons, List.map_nil, List.replicate, List.length_cons, List.length_nil, List.append_eq, List.nil_append, List.cons_append, Bool.and_true, Bool.true_and, Bool.and_false, Bool.false_and, Bool.not_true, Bool.not_false, if_true, if_false, reduceCtorEq, Nat.reduceSub, Nat.reduceAdd, Nat.reduceLeDiff, Bool.false_eq_true, Bool.or_false, Bool.false_or, ite_true, ite_false, n_add, lenOk_0, lenOk_1, lenOk_2, lenOk_3, lenOk_4, lenOk_5, lenOk_6, lenOk_7, lenOk_8, encO]
  | none =>
    rw [c0] at e0
    rw [fr_nx (ρ1 := [some (false, encW way), sN 0, none, none, none]) rfl e0]
    cases c1 : fcSide way 1 with
    | some line =>
      rw [c1] at e1
      rw [fr_rt (ρ1 := [some (false, encW way), sN 1, a2, none, a4]) rfl e1]
      simp only [q_wipeR_1, q_wipeR_2, q_asg_1, q_asg_2, q_asg_3, q_asg_4, q_asgR_1, q_ownedArg_1, q_ownedArgs_1, q_ownedArgs_2, q_itemsOf_1, q_itemsOf_2, q_evE_1, q_evE_2, q_evE_3, q_evE_4, q_evE_5, q_evE_6, q_evE_7, q_evE_8, q_evE_9, q_evE_10, q_evE_11, q_evE_12, q_evE_13, q_evE_14, q_evE_15, q_evE_16, q_evE_17, q_evE_18, q_evE_19, q_evE_20, q_evEs_1, q_evEs_2, q_evP_1, q_evP_2, q_evC_1, q_evC_2, q_evI_1, q_evI_2, q_evRet_1, q_evS_1, q_evS_2, q_evS_3, q_evS_4, q_evS_5, q_evS_6, q_evS_7, q_evS_8, q_evS_9, q_evS_10, q_evS_11, q_evS_12, q_evS_13, q_evS_14, q_evS_15, q_evS_16, q_evSs_1, q_evSs_2, q_oa_0, q_rt_0, q_oa_1, q_rt_1, q_oa_2, q_rt_2, q_oa_3, q_rt_3, q_oa_4, q_rt_4, q_oa_5, q_rt_5, q_oa_6, q_rt_6, q_oa_7, q_rt_7, q_oa_8, q_rt_8, q_oa_9, q_rt_9, q_oa_10, q_rt_10, q_oa_11, q_rt_11, q_oa_12, q_rt_12, q_oa_13, q_rt_13, q_oa_14, q_rt_14, q_oa_15, q_rt_15, q_oa_16, q_rt_16, q_oa_17, q_rt_17, q_ar_0, q_ar_1, q_ar_2, asI_N, asI_i, q_l2, q_l3, q_l4, q_l5, q_l6, q_l7, q_l8, q_l9, q_l10, q_l11, q_l12, q_l13, q_ret, q_bind, q_bindn, q_map, q_mapn, q_one, q_zero, q_evT, q_own, evNeg, startR, List.getElem?_cons_succ, List.getElem?_cons_zero, List.set_cons_succ, List.set_cons_zero, List.map_cons, List.map_nil, List.replicate, List.length_cons, List.length_nil, List.append_eq, List.nil_append, List.cons_append, Bool.and_true, Bool.true_and, Bool.and_false, Bool.false_and, Bool.not_true, Bool.not_false, if_true, if_false, reduceCtorEq, Nat.reduceSub, Nat.reduceAdd, Nat.reduceLeDiff, Bool.false_eq_true, Bool.or_false, Bool.false_or, ite_true, ite_false, n_add, lenOk_0, lenOk_1, lenOk_2, lenOk_3, lenOk_4, lenOk_5, lenOk_6, lenOk_7, lenOk_8, encO]
    | none =>
      rw [c1] at e1
      rw [fr_nx (ρ1 := [some (false, encW way), sN 1, a2, none, a4]) rfl e1, fr_nil]
      simp only [q_wipeR_1, q_wipeR_2, q_asg_1, q_asg_2, q_asg_3, q_asg_4, q_asgR_1, q_ownedArg_1, q_ownedArgs_1, q_ownedArgs_2, q_itemsOf_1, q_itemsOf_2, q_evE_1, q_evE_2, q_evE_3, q_evE_4, q_evE_5, q_evE_6, q_evE_7, q_evE_8, q_evE_9, q_evE_10, q_evE_11, q_evE_12, q_evE_13, q_evE_14, q_evE_15, q_evE_16, q_evE_17, q_evE_18, q_evE_19, q_evE_20, q_evEs_1, q_evEs_2, q_evP_1, q_evP_2, q_evC_1, q_evC_2, q_evI_1, q_evI_2, q_evRet_1, q_evS_1, q_evS_2, q_evS_3, q_evS_4, q_evS_5, q_evS_6, q_evS_7, q_evS_8, q_evS_9, q_evS_10, q_evS_11, q_evS_12, q_evS_13, q_evS_14, q_evS_15, q_evS_16, q_evSs_1, q_evSs_2, q_oa_0, q_rt_0, q_oa_1, q_rt_1, q_oa_2, q_rt_2, q_oa_3, q_rt_3, q_oa_4, q_rt_4, q_oa_5, q_rt_5, q_oa_6, q_rt_6, q_oa_7, q_rt_7, q_oa_8, q_rt_8, q_oa_9, q_rt_9, q_oa_10, q_rt_10, q_oa_11, q_rt_11, q_oa_12, q_rt_12, q_oa_13, q_rt_13, q_oa_14, q_rt_14, q_oa_15, q_rt_15, q_oa_16, q_rt_16, q_oa_17, q_rt_17, q_ar_0, q_ar_1, q_ar_2, asI_N, asI_i, q_l2, q_l3, q_l4, q_l5, q_l6, q_l7, q_l8, q_l9, q_l10, q_l11, q_l12, q_l13, q_ret, q_bind, q_bindn, q_map, q_mapn, q_one, q_zero, q_evT, q_own, evNeg, startR, List.getElem?_cons_succ, List.getElem?_cons_zero, List.set_cons_succ, List.set_cons_zero, List.map_cons, List.map_nil, List.replicate, List.length_cons, List.length_nil, List.append_eq, List.nil_append, List.cons_append, Bool.and_true, Bool.true_and, Bool.and_false, Bool.false_and, Bool.not_true, Bool.not_false, if_true, if_false, reduceCtorEq, Nat.reduceSub, Nat.reduceAdd, Nat.reduceLeDiff, Bool.false_eq_true, Bool.or_false, Bool.false_or, ite_true, ite_false, n_add, lenOk_0, lenOk_1, lenOk_2, lenOk_3, lenOk_4, lenOk_5, lenOk_6, lenOk_7, lenOk_8, encO]
theorem keepIf_len {α : Type} (p : α → Bool) (l : List α) : (keepIf p l).length ≤ l.length := List.length_filterMap_le _ _
def cpGo : Nat → List (List B) → Option Bool
  | 0, _ => none
  | _ + 1, [] => some true
  | k + 1, part :: st => if 1 < part.length then match firstClear part with
    | none => some false
    | some (side, line) => cpGo k (uppers side line part :: lowers side line part :: st)
    else cpGo k st
theorem fc_lt {way : List B} {side line : Nat} (h : firstClear way = some (side, line)) : side < 2 := by
  unfold firstClear at h
  cases c0 : fcSide way 0 with
  | some l0 => rw [c0] at h; cases h; decide
  | none =>
    rw [c0] at h
    cases c1 : fcSide way 1 with
    | some l1 => rw [c1] at h; cases h; decide
    | none => rw [c1] at h; cases h
theorem cp_test {s0 s2 s3 : Option R} {ds : List PyData} : tst iw_comes_from_edge_to_edge_1 [s0, some (true, .list ds), s2, s3] = some (decide (0 < ds.length)) := by
  unfold tst iw_comes_from_edge_to_edge_1
  simp only [q_wipeR_1, q_wipeR_2, q_asg_1, q_asg_2, q_asg_3, q_asg_4, q_asgR_1, q_ownedArg_1, q_ownedArgs_1, q_ownedArgs_2, q_itemsOf_1, q_itemsOf_2, q_evE_1, q_evE_2, q_evE_3, q_evE_4, q_evE_5, q_evE_6, q_evE_7, q_evE_8, q_evE_9, q_evE_10, q_evE_11, q_evE_12, q_evE_13, q_evE_14, q_evE_15, q_evE_16, q_evE_17, q_evE_18, q_evE_19, q_evE_20, q_evEs_1, q_evEs_2, q_evP_1, q_evP_2, q_evC_1, q_evC_2, q_evI_1, q_evI_2, q_evRet_1, q_evS_1, q_evS_2, q_evS_3, q_evS_4, q_evS_5, q_evS_6, q_evS_7, q_evS_8, q_evS_9, q_evS_10, q_evS_11, q_evS_12, q_evS_13, q_evS_14, q_evS_15, q_evS_16, q_evSs_1, q_evSs_2, q_oa_0, q_rt_0, q_oa_1, q_rt_1, q_oa_2, q_rt_2, q_oa_3, q_rt_3, q_oa_4, q_rt_4, q_oa_5, q_rt_5, q_oa_6, q_rt_6, q_oa_7, q_rt_7, q_oa_8, q_rt_8, q_oa_9, q_rt_9, q_oa_10, q_rt_10, q_oa_11, q_rt_11, q_oa_12, q_rt_12, q_oa_13, q_rt_13, q_oa_14, q_rt_14, q_oa_15, q_rt_15, q_oa_16, q_rt_16, q_oa_17, q_rt_17, q_ar_0, q_ar_1, q_ar_2, asI_N, asI_i, q_l2, q_l3, q_l4, q_l5, q_l6, q_l7, q_l8, q_l9, q_l10, q_l11, q_l12, q_l13, q_ret, q_bind, q_bindn, q_map, q_mapn, q_one, q_zero, q_evT, q_own, evNeg, startR, List.getElem?_cons_succ, List.getElem?_cons_zero, List.set_cons_succ, List.set_cons_zero, List.map_cons, List.map_nil, List.replicate, List.length_cons, List.length_nil, List.append_eq, List.nil_append, List.cons_append, Bool.and_true, Bool.true_and, Bool.and_false, Bool.false_and, Bool.not_true, Bool.not_false, if_true, if_false, reduceCtorEq, Nat.reduceSub, Nat.reduceAdd, Nat.reduceLeDiff, Bool.false_eq_true, Bool.or_false, Bool.false_or, ite_true, ite_false, n_add, lenOk_0, lenOk_1, lenOk_2, lenOk_3, lenOk_4, lenOk_5, lenOk_6, lenOk_7, lenOk_8, n_len, n_gt]
theorem n_lenW (w : List B) : evBI .len [encW w] = some (false, N w.length) := by
  show some (false, PyData.int ((w.map encB).length : Int)) = _
  rw [List.length_map]; rfl
theorem cp_step {s0 j2 j3 : Option R} {part : List B} {st : List (List B)} (hp : part.length < 64) (hs : st.length ≤ 1000000) :
    (1 < part.length → firstClear part = none → blk FUEL ib_comes_from_edge_to_edge_1 [s0, some (true, .list ((part :: st).reverse.map encW)), j2, j3] = some (.rt (false, .bool false))) ∧
    (∀ side line, 1 < part.length → firstClear part = some (side, line) → blk FUEL ib_comes_from_edge_to_edge_1 [s0, some (true, .list ((part :: st).reverse.map encW)), j2, j3] = some (.nx [s0, some (true, .list ((uppers side line part :: lowers side line part :: st).reverse.map encW)), some (false, encW part), some (false, encO (some (side, line)))])) ∧
    (¬ 1 < part.length → blk FUEL ib_comes_from_edge_to_edge_1 [s0, some (true, .list ((part :: st).reverse.map encW)), j2, j3] = some (.nx [s0, some (true, .list (st.reverse.map encW)), some (false, encW part), j3])) := by
  have e1 : ((part :: st).reverse).map encW = st.reverse.map encW ++ [encW part] := by
    rw [List.reverse_cons, List.map_append]; rfl
  rw [e1]
  unfold blk ib_comes_from_edge_to_edge_1
  refine ⟨fun h1 h2 => ?_, fun side line h1 h2 => ?_, fun h1 => ?_⟩
  · have h0 : part ≠ [] := fun z => by rw [z] at h1; exact absurd h1 (by decide)
    have hi : isNone (encO none) = true := rfl
    simp only [q_wipeR_1, q_wipeR_2, q_asg_1, q_asg_2, q_asg_3, q_asg_4, q_asgR_1, q_ownedArg_1, q_ownedArgs_1, q_ownedArgs_2, q_itemsOf_1, q_itemsOf_2, q_evE_1, q_evE_2, q_evE_3, q_evE_4, q_evE_5, q_evE_6, q_evE_7, q_evE_8, q_evE_9, q_evE_10, q_evE_11, q_evE_12, q_evE_13, q_evE_14, q_evE_15, q_evE_16, q_evE_17, q_evE_18, q_evE_19, q_evE_20, q_evEs_1, q_evEs_2, q_evP_1, q_evP_2, q_evC_1, q_evC_2, q_evI_1, q_evI_2, q_evRet_1, q_evS_1, q_evS_2, q_evS_3, q_evS_4, q_evS_5, q_evS_6, q_evS_7, q_evS_8, q_evS_9, q_evS_10, q_evS_11, q_evS_12, q_evS_13, q_evS_14, q_evS_15, q_evS_16, q_evSs_1, q_evSs_2, q_oa_0, q_rt_0, q_oa_1, q_rt_1, q_oa_2, q_rt_2, q_oa_3, q_rt_3, q_oa_4, q_rt_4, q_oa_5, q_rt_5, q_oa_6, q_rt_6, q_oa_7, q_rt_7, q_oa_8, q_rt_8, q_oa_9, q_rt_9, q_oa_10, q_rt_10, q_oa_11, q_rt_11, q_oa_12, q_rt_12, q_oa_13, q_rt_13, q_oa_14, q_rt_14, q_oa_15, q_rt_15, q_oa_16, q_rt_16, q_oa_17, q_rt_17, q_ar_0, q_ar_1, q_ar_2, asI_N, asI_i, q_l2, q_l3, q_l4, q_l5, q_l6, q_l7, q_l8, q_l9, q_l10, q_l11, q_l12, q_l13, q_ret, q_bind, q_bindn, q_map, q_mapn, q_one, q_zero, q_evT, q_own, evNeg, startR, List.getElem?_cons_succ, List.getElem?_cons_zero, List.set_cons_succ, List.set_cons_zero, List.map_cons, List.map_nil, List.replicate, List.length_cons, List.length_nil, List.append_eq, List.nil_append, List.cons_append, Bool.and_true, Bool.true_and, Bool.and_false, Bool.false_and, Bool.not_true, Bool.not_false, if_true, if_false, reduceCtorEq, Nat.reduceSub, Nat.reduceAdd, Nat.reduceLeDiff, Bool.false_eq_true, Bool.or_false, Bool.false_or, ite_true, ite_false, n_add, lenOk_0, lenOk_1, lenOk_2, lenOk_3, lenOk_4, lenOk_5, lenOk_6, lenOk_7, lenOk_8, List.getLast?_concat, List.dropLast_concat, n_lenW, n_gt, h1, decide_true, first_clear_is h0 hp, h2, q_isn, hi]
  · have h0 : part ≠ [] := fun z => by rw [z] at h1; exact absurd h1 (by decide)
    have hi : isNone (encO (some (side, line))) = false := rfl
    have hx0 : evIx (encO (some (side, line))) (N 0) = some (false, N side) := n_ixt _ 0
    have hx1 : evIx (encO (some (side, line))) (N 1) = some (false, N line) := n_ixt _ 1
    simp only [q_wipeR_1, q_wipeR_2, q_asg_1, q_asg_2, q_asg_3, q_asg_4, q_asgR_1, q_ownedArg_1, q_ownedArgs_1, q_ownedArgs_2, q_itemsOf_1, q_itemsOf_2, q_evE_1, q_evE_2, q_evE_3, q_evE_4, q_evE_5, q_evE_6, q_evE_7, q_evE_8, q_evE_9, q_evE_10, q_evE_11, q_evE_12, q_evE_13, q_evE_14, q_evE_15, q_evE_16, q_evE_17, q_evE_18, q_evE_19, q_evE_20, q_evEs_1, q_evEs_2, q_evP_1, q_evP_2, q_evC_1, q_evC_2, q_evI_1, q_evI_2, q_evRet_1, q_evS_1, q_evS_2, q_evS_3, q_evS_4, q_evS_5, q_evS_6, q_evS_7, q_evS_8, q_evS_9, q_evS_10, q_evS_11, q_evS_12, q_evS_13, q_evS_14, q_evS_15, q_evS_16, q_evSs_1, q_evSs_2, q_oa_0, q_rt_0, q_oa_1, q_rt_1, q_oa_2, q_rt_2, q_oa_3, q_rt_3, q_oa_4, q_rt_4, q_oa_5, q_rt_5, q_oa_6, q_rt_6, q_oa_7, q_rt_7, q_oa_8, q_rt_8, q_oa_9, q_rt_9, q_oa_10, q_rt_10, q_oa_11, q_rt_11, q_oa_12, q_rt_12, q_oa_13, q_rt_13, q_oa_14, q_rt_14, q_oa_15, q_rt_15, q_oa_16, q_rt_16, q_oa_17, q_rt_17, q_ar_0, q_ar_1, q_ar_2, asI_N, asI_i, q_l2, q_l3, q_l4, q_l5, q_l6, q_l7, q_l8, q_l9, q_l10, q_l11, q_l12, q_l13, q_ret, q_bind, q_bindn, q_map, q_mapn, q_one, q_zero, q_evT, q_own, evNeg, startR, List.getElem?_cons_succ, List.getElem?_cons_zero, List.set_cons_succ, List.set_cons_zero, List.map_cons, List.map_nil, List.replicate, List.length_cons, List.length_nil, List.append_eq, List.nil_append, List.cons_append, Bool.and_true, Bool.true_and, Bool.and_false, Bool.false_and, Bool.not_true, Bool.not_false, if_true, if_false, reduceCtorEq, Nat.reduceSub, Nat.reduceAdd, Nat.reduceLeDiff, Bool.false_eq_true, Bool.or_false, Bool.false_or, ite_true, ite_false, n_add, lenOk_0, lenOk_1, lenOk_2, lenOk_3, lenOk_4, lenOk_5, lenOk_6, lenOk_7, lenOk_8, List.getLast?_concat, List.dropLast_concat, n_lenW, n_gt, h1, decide_true, first_clear_is h0 hp, h2, q_isn, hi, hx0, hx1, parts_at_is (fc_lt h2)]
    rw [if_pos (lenOk_of (by rw [List.length_map, List.length_reverse]; omega))]
    simp only [q_wipeR_1, q_wipeR_2, q_asg_1, q_asg_2, q_asg_3, q_asg_4, q_asgR_1, q_ownedArg_1, q_ownedArgs_1, q_ownedArgs_2, q_itemsOf_1, q_itemsOf_2, q_evE_1, q_evE_2, q_evE_3, q_evE_4, q_evE_5, q_evE_6, q_evE_7, q_evE_8, q_evE_9, q_evE_10, q_evE_11, q_evE_12, q_evE_13, q_evE_14, q_evE_15, q_evE_16, q_evE_17, q_evE_18, q_evE_19, q_evE_20, q_evEs_1, q_evEs_2, q_evP_1, q_evP_2, q_evC_1, q_evC_2, q_evI_1, q_evI_2, q_evRet_1, q_evS_1, q_evS_2, q_evS_3, q_evS_4, q_evS_5, q_evS_6, q_evS_7, q_evS_8, q_evS_9, q_evS_10, q_evS_11, q_evS_12, q_evS_13, q_evS_14, q_evS_15, q_evS_16, q_evSs_1, q_evSs_2, q_oa_0, q_rt_0, q_oa_1, q_rt_1, q_oa_2, q_rt_2, q_oa_3, q_rt_3, q_oa_4, q_rt_4, q_oa_5, q_rt_5, q_oa_6, q_rt_6, q_oa_7, q_rt_7, q_oa_8, q_rt_8, q_oa_9, q_rt_9, q_oa_10, q_rt_10, q_oa_11, q_rt_11, q_oa_12, q_rt_12, q_oa_13, q_rt_13, q_oa_14, q_rt_14, q_oa_15, q_rt_15, q_oa_16, q_rt_16, q_oa_17, q_rt_17, q_ar_0, q_ar_1, q_ar_2, asI_N, asI_i, q_l2, q_l3, q_l4, q_l5, q_l6, q_l7, q_l8, q_l9, q_l10, q_l11, q_l12, q_l13, q_ret, q_bind, q_bindn, q_map, q_mapn, q_one, q_zero, q_evT, q_own, evNeg, startR, List.getElem?_cons_succ, List.getElem?_cons_zero, List.set_cons_succ, List.set_cons_zero, List.map_cons, List.map_nil, List.replicate, List.length_cons, List.length_nil, List.append_eq, List.nil_append, List.cons_append, Bool.and_true, Bool.true_and, Bool.and_false, Bool.false_and, Bool.not_true, Bool.not_false, if_true, if_false, reduceCtorEq, Nat.reduceSub, Nat.reduceAdd, Nat.reduceLeDiff, Bool.false_eq_true, Bool.or_false, Bool.false_or, ite_true, ite_false, n_add, lenOk_0, lenOk_1, lenOk_2, lenOk_3, lenOk_4, lenOk_5, lenOk_6, lenOk_7, lenOk_8, List.reverse_cons, List.map_append, List.append_assoc]
  · simp only [q_wipeR_1, q_wipeR_2, q_asg_1, q_asg_2, q_asg_3, q_asg_4, q_asgR_1, q_ownedArg_1, q_ownedArgs_1, q_ownedArgs_2, q_itemsOf_1, q_itemsOf_2, q_evE_1, q_evE_2, q_evE_3, q_evE_4, q_evE_5, q_evE_6, q_evE_7, q_evE_8, q_evE_9, q_evE_10, q_evE_11, q_evE_12, q_evE_13, q_evE_14, q_evE_15, q_evE_16, q_evE_17, q_evE_18, q_evE_19, q_evE_20, q_evEs_1, q_evEs_2, q_evP_1, q_evP_2, q_evC_1, q_evC_2, q_evI_1, q_evI_2, q_evRet_1, q_evS_1, q_evS_2, q_evS_3, q_evS_4, q_evS_5, q_evS_6, q_evS_7, q_evS_8, q_evS_9, q_evS_10, q_evS_11, q_evS_12, q_evS_13, q_evS_14, q_evS_15, q_evS_16, q_evSs_1, q_evSs_2, q_oa_0, q_rt_0, q_oa_1, q_rt_1, q_oa_2, q_rt_2, q_oa_3, q_rt_3, q_oa_4, q_rt_4, q_oa_5, q_rt_5, q_oa_6, q_rt_6, q_oa_7, q_rt_7, q_oa_8, q_rt_8, q_oa_9, q_rt_9, q_oa_10, q_rt_10, q_oa_11, q_rt_11, q_oa_12, q_rt_12, q_oa_13, q_rt_13, q_oa_14, q_rt_14, q_oa_15, q_rt_15, q_oa_16, q_rt_16, q_oa_17, q_rt_17, q_ar_0, q_ar_1, q_ar_2, asI_N, asI_i, q_l2, q_l3, q_l4, q_l5, q_l6, q_l7, q_l8, q_l9, q_l10, q_l11, q_l12, q_l13, q_ret, q_bind, q_bindn, q_map, q_mapn, q_one, q_zero, q_evT, q_own, evNeg, startR, List.getElem?_cons_succ, List.getElem?_cons_zero, List.set_cons_succ, List.set_cons_zero, List.map_cons, List.map_nil, List.replicate, List.length_cons, List.length_nil, List.append_eq, List.nil_append, List.cons_append, Bool.and_true, Bool.true_and, Bool.and_false, Bool.false_and, Bool.not_true, Bool.not_false, if_true, if_false, reduceCtorEq, Nat.reduceSub, Nat.reduceAdd, Nat.reduceLeDiff, Bool.false_eq_true, Bool.or_false, Bool.false_or, ite_true, ite_false, n_add, lenOk_0, lenOk_1, lenOk_2, lenOk_3, lenOk_4, lenOk_5, lenOk_6, lenOk_7, lenOk_8, List.getLast?_concat, List.dropLast_concat, n_lenW, n_gt, h1, decide_false]
theorem cp_loop : ∀ (k : Nat) (st : List (List B)) (r : Bool) (fuel : Nat) (s0 j2 j3 : Option R), cpGo k st = some r → k ≤ fuel → st.length + 2 * k ≤ 1000000 → (∀ w ∈ st, w.length < 64) →
    (r = false ∧ whileGo (tst iw_comes_from_edge_to_edge_1) (blk FUEL ib_comes_from_edge_to_edge_1) fuel [s0, some (true, .list (st.reverse.map encW)), j2, j3] = some (.rt (false, .bool false))) ∨
    (r = true ∧ ∃ k1 k2 k3, whileGo (tst iw_comes_from_edge_to_edge_1) (blk FUEL ib_comes_from_edge_to_edge_1) fuel [s0, some (true, .list (st.reverse.map encW)), j2, j3] = some (.nx [s0, k1, k2, k3]))
  | 0, st, r, fuel, s0, j2, j3, h, _, _, _ => by cases h
  | k + 1, [], r, fuel, s0, j2, j3, h, hk, _, _ => by
    obtain ⟨f, rfl⟩ : ∃ f, fuel = f + 1 := ⟨fuel - 1, by omega⟩
    cases h
    exact .inr ⟨rfl, some (true, .list []), j2, j3, wh_false cp_test⟩
  | k + 1, part :: st, r, fuel, s0, j2, j3, h, hk, hs, hw => by
    obtain ⟨f, rfl⟩ : ∃ f, fuel = f + 1 := ⟨fuel - 1, by omega⟩
    rw [List.length_cons] at hs
    have hp := hw part List.mem_cons_self
    have e0 : decide (0 < ((part :: st).reverse.map encW).length) = true := decide_eq_true (by simp)
    obtain ⟨s1, s2, s3⟩ := cp_step (s0 := s0) (j2 := j2) (j3 := j3) (part := part) (st := st) hp (by omega)
    rw [cpGo] at h
    by_cases hc : 1 < part.length
    · rw [if_pos hc] at h
      cases hf : firstClear part with
      | none =>
        rw [hf] at h
        cases h
        exact .inl ⟨rfl, wh_rt (cp_test.trans (congrArg some e0)) (s1 hc hf)⟩
      | some p =>
        obtain ⟨side, line⟩ := p
        rw [hf] at h
        have h1 := keepIf_len (fun b => decide (co side b < line)) part
        have h2 := keepIf_len (fun b => decide (line ≤ co side b)) part
        have ih := cp_loop k _ r f s0 (some (false, encW part)) (some (false, encO (some (side, line)))) h (by omega) (by simp only [List.length_cons]; omega) fun w hm => by
          rcases List.mem_cons.mp hm with rfl | hm
          · exact Nat.lt_of_le_of_lt h2 hp
          · rcases List.mem_cons.mp hm with rfl | hm
            · exact Nat.lt_of_le_of_lt h1 hp
            · exact hw w (List.mem_cons_of_mem _ hm)
        have es := wh_true (n := f) (cp_test.trans (congrArg some e0)) (s2 side line hc hf)
        rcases ih with ⟨a, b⟩ | ⟨a, k1, k2, k3, b⟩
        · exact .inl ⟨a, es.trans b⟩
        · exact .inr ⟨a, k1, k2, k3, es.trans b⟩
    · rw [if_neg hc] at h
      have ih := cp_loop k _ r f s0 (some (false, encW part)) j3 h (by omega) (by omega) fun w hm => hw w (List.mem_cons_of_mem _ hm)
      have es := wh_true (n := f) (cp_test.trans (congrArg some e0)) (s3 hc)
      rcases ih with ⟨a, b⟩ | ⟨a, k1, k2, k3, b⟩
      · exact .inl ⟨a, es.trans b⟩
      · exact .inr ⟨a, k1, k2, k3, es.trans b⟩
/-- the program's test, of a way -/
def comesP (way : List B) : Option Bool := cpGo 60 [way]
theorem comes_is {way : List B} {r : Bool} (h : comesP way = some r) (hl : way.length < 64) : f_comes_from_edge_to_edge [encW way] = some (false, .bool r) := by
  have ih := cp_loop 60 [way] r FUEL (some (false, encW way)) none none h (by decide) (by rw [List.length_singleton]; decide) fun w hw => by rw [List.mem_singleton.mp hw]; exact hl
  have e1 : List.map encW [way].reverse = [encW way] := rfl
  rw [e1] at ih
  unfold f_comes_from_edge_to_edge evDef ir_comes_from_edge_to_edge
  simp only [q_wipeR_1, q_wipeR_2, q_asg_1, q_asg_2, q_asg_3, q_asg_4, q_asgR_1, q_ownedArg_1, q_ownedArgs_1, q_ownedArgs_2, q_itemsOf_1, q_itemsOf_2, q_evE_1, q_evE_2, q_evE_3, q_evE_4, q_evE_5, q_evE_6, q_evE_7, q_evE_8, q_evE_9, q_evE_10, q_evE_11, q_evE_12, q_evE_13, q_evE_14, q_evE_15, q_evE_16, q_evE_17, q_evE_18, q_evE_19, q_evE_20, q_evEs_1, q_evEs_2, q_evP_1, q_evP_2, q_evC_1, q_evC_2, q_evI_1, q_evI_2, q_evRet_1, q_evS_1, q_evS_2, q_evS_3, q_evS_4, q_evS_5, q_evS_6, q_evS_7, q_evS_8, q_evS_9, q_evS_10, q_evS_11, q_evS_12, q_evS_13, q_evS_14, q_evS_15, q_evS_16, q_evSs_1, q_evSs_2, q_oa_0, q_rt_0, q_oa_1, q_rt_1, q_oa_2, q_rt_2, q_oa_3, q_rt_3, q_oa_4, q_rt_4, q_oa_5, q_rt_5, q_oa_6, q_rt_6, q_oa_7, q_rt_7, q_oa_8, q_rt_8, q_oa_9, q_rt_9, q_oa_10, q_rt_10, q_oa_11, q_rt_11, q_oa_12, q_rt_12, q_oa_13, q_rt_13, q_oa_14, q_rt_14, q_oa_15, q_rt_15, q_oa_16, q_rt_16, q_oa_17, q_rt_17, q_ar_0, q_ar_1, q_ar_2, asI_N, asI_i, q_l2, q_l3, q_l4, q_l5, q_l6, q_l7, q_l8, q_l9, q_l10, q_l11, q_l12, q_l13, q_ret, q_bind, q_bindn, q_map, q_mapn, q_one, q_zero, q_evT, q_own, evNeg, startR, List.getElem?_cons_succ, List.getElem?_cons_zero, List.set_cons_succ, List.set_cons_zero, List.map_cons, List.map_nil, List.replicate, List.length_cons, List.length_nil, List.append_eq, List.nil_append, List.cons_append, Bool.and_true, Bool.true_and, Bool.and_false, Bool.false_and, Bool.not_true, Bool.not_false, if_true, if_false, reduceCtorEq, Nat.reduceSub, Nat.reduceAdd, Nat.reduceLeDiff, Bool.false_eq_true, Bool.or_false, Bool.false_or, ite_true, ite_false, n_add, lenOk_0, lenOk_1, lenOk_2, lenOk_3, lenOk_4, lenOk_5, lenOk_6, lenOk_7, lenOk_8]
  rcases ih with ⟨rfl, e⟩ | ⟨rfl, k1, k2, k3, e⟩ <;> rw [e] <;> simp only [q_wipeR_1, q_wipeR_2, q_asg_1, q_asg_2, q_asg_3, q_asg_4, q_asgR_1, q_ownedArg_1, q_ownedArgs_1, q_ownedArgs_2, q_itemsOf_1, q_itemsOf_2, q_evE_1, q_evE_2, q_evE_3, q_evE_4, q_evE_5, q_evE_6, q_evE_7, q_evE_8, q_evE_9, q_evE_10, q_evE_11, q_evE_12, q_evE_13, q_evE_14, q_evE_15, q_evE_16, q_evE_17, q_evE_18, q_evE_19, q_evE_20, q_evEs_1, q_evEs_2, q_evP_1, q_evP_2, q_evC_1, q_evC_2, q_evI_1, q_evI_2, q_evRet_1, q_evS_1, q_evS_2, q_evS_3, q_evS_4, q_evS_5, q_evS_6, q_evS_7, q_evS_8, q_evS_9, q_evS_10, q_evS_11, q_evS_12, q_evS_13, q_evS_14, q_evS_15, q_evS_16, q_evSs_1, q_evSs_2, q_oa_0, q_rt_0, q_oa_1, q_rt_1, q_oa_2, q_rt_2, q_oa_3, q_rt_3, q_oa_4, q_rt_4, q_oa_5, q_rt_5, q_oa_6, q_rt_6, q_oa_7, q_rt_7, q_oa_8, q_rt_8, q_oa_9, q_rt_9, q_oa_10, q_rt_10, q_oa_11, q_rt_11, q_oa_12, q_rt_12, q_oa_13, q_rt_13, q_oa_14, q_rt_14, q_oa_15, q_rt_15, q_oa_16, q_rt_16, q_oa_17, q_rt_17, q_ar_0, q_ar_1, q_ar_2, asI_N, asI_i, q_l2, q_l3, q_l4, q_l5, q_l6, q_l7, q_l8, q_l9, q_l10, q_l11, q_l12, q_l13, q_ret, q_bind, q_bindn, q_map, q_mapn, q_one, q_zero, q_evT, q_own, evNeg, startR, List.getElem?_cons_succ, List.getElem?_cons_zero, List.set_cons_succ, List.set_cons_zero, List.map_cons, List.map_nil, List.replicate, List.length_cons, List.length_nil, List.append_eq, List.nil_append, List.cons_append, Bool.and_true, Bool.true_and, Bool.and_false, Bool.false_and, Bool.not_true, Bool.not_false, if_true, if_false, reduceCtorEq, Nat.reduceSub, Nat.reduceAdd, Nat.reduceLeDiff, Bool.false_eq_true, Bool.or_false, Bool.false_or, ite_true, ite_false, n_add, lenOk_0, lenOk_1, lenOk_2, lenOk_3, lenOk_4, lenOk_5, lenOk_6, lenOk_7, lenOk_8]
/-- all of them answer -/
def keepO (f : List B → Option Bool) : List (List B) → Option Nat
  | [] => some 0
  | w :: ws => match f w with
    | none => none
    | some b => match keepO f ws with
      | none => none
      | some n => some (if b then n + 1 else n)
theorem keepO_comp {f : List B → Option Bool} {F : PyData → Option (Option PyData)} : ∀ (l : List (List B)) (n : Nat), keepO f l = some n → (∀ w ∈ l, ∀ b, f w = some b → F (encW w) = some (if b then some (encW w) else none)) → ∃ ys, compGo F (l.map encW) = some ys ∧ ys.length = n
  | [], n, h, _ => by cases h; exact ⟨[], rfl, rfl⟩
  | w :: l, n, h, hF => by
    rw [keepO] at h
    cases hw : f w with
    | none => rw [hw] at h; cases h
    | some b =>
      rw [hw] at h
      cases hk : keepO f l with
      | none => rw [hk] at h; cases h
      | some k =>
        rw [hk] at h
        obtain ⟨ys, e1, e2⟩ := keepO_comp l k hk fun w hm => hF w (List.mem_cons_of_mem _ hm)
        have e3 := hF w List.mem_cons_self b hw
        cases h
        rw [List.map_cons, compGo, e3]
        cases b with
        | true => exact ⟨encW w :: ys, by show (match compGo F (l.map encW) with | none => none | some ys => some (encW w :: ys)) = _; rw [e1], by rw [List.length_cons, e2]; rfl⟩
        | false => exact ⟨ys, e1, e2⟩
theorem keepO_rev {f : List B → Option Bool} : ∀ (l : List (List B)) (a n : Nat) (l2 : List (List B)), keepO f l = some n → keepO f l2 = some a → keepO f (l.reverse ++ l2) = some (n + a)
  | [], a, n, l2, h, h2 => by cases h; rw [Nat.zero_add]; exact h2
  | w :: l, a, n, l2, h, h2 => by
    rw [keepO] at h
    cases hw : f w with
    | none => rw [hw] at h; cases h
    | some b =>
      rw [hw] at h
      cases hk : keepO f l with
      | none => rw [hk] at h; cases h
      | some k =>
        rw [hk] at h
        cases h
        rw [List.reverse_cons, List.append_assoc]
        have := keepO_rev l (if b then a + 1 else a) k (w :: l2) hk (by rw [keepO, hw, h2])
        rw [List.singleton_append, this]
        congr 1
        cases b
        · rfl
        · show k + (a + 1) = k + 1 + a; omega
def cntP (m n : Nat) : Option Nat := (waysP m n).bind fun r => if r.all (fun w => decide (w.length < 64)) then keepO comesP r else none
theorem count_is {m n c : Nat} (hm0 : 0 < m) (hm : m ≤ 20) (hn : n ≤ 20) (h : cntP m n = some c) : f_count_tree_cuttings [N m, N n] = some (false, N c) := by
  unfold cntP at h
  obtain ⟨r, h1, h2⟩ := bind_some h
  split at h2
  case isFalse => cases h2
  rename_i hl
  have hk : keepO comesP r.reverse = some c := by
    have := keepO_rev r 0 c [] h2 rfl
    rwa [List.append_nil, Nat.add_zero] at this
  have e : ∃ ys, evE ic_count_tree_cuttings_1 true [sN m, sN n, none] = some (true, .list ys) ∧ ys.length = c := by
    unfold ic_count_tree_cuttings_1
    simp only [q_wipeR_1, q_wipeR_2, q_asg_1, q_asg_2, q_asg_3, q_asg_4, q_asgR_1, q_ownedArg_1, q_ownedArgs_1, q_ownedArgs_2, q_itemsOf_1, q_itemsOf_2, q_evE_1, q_evE_2, q_evE_3, q_evE_4, q_evE_5, q_evE_6, q_evE_7, q_evE_8, q_evE_9, q_evE_10, q_evE_11, q_evE_12, q_evE_13, q_evE_14, q_evE_15, q_evE_16, q_evE_17, q_evE_18, q_evE_19, q_evE_20, q_evEs_1, q_evEs_2, q_evP_1, q_evP_2, q_evC_1, q_evC_2, q_evI_1, q_evI_2, q_evRet_1, q_evS_1, q_evS_2, q_evS_3, q_evS_4, q_evS_5, q_evS_6, q_evS_7, q_evS_8, q_evS_9, q_evS_10, q_evS_11, q_evS_12, q_evS_13, q_evS_14, q_evS_15, q_evS_16, q_evSs_1, q_evSs_2, q_oa_0, q_rt_0, q_oa_1, q_rt_1, q_oa_2, q_rt_2, q_oa_3, q_rt_3, q_oa_4, q_rt_4, q_oa_5, q_rt_5, q_oa_6, q_rt_6, q_oa_7, q_rt_7, q_oa_8, q_rt_8, q_oa_9, q_rt_9, q_oa_10, q_rt_10, q_oa_11, q_rt_11, q_oa_12, q_rt_12, q_oa_13, q_rt_13, q_oa_14, q_rt_14, q_oa_15, q_rt_15, q_oa_16, q_rt_16, q_oa_17, q_rt_17, q_ar_0, q_ar_1, q_ar_2, asI_N, asI_i, q_l2, q_l3, q_l4, q_l5, q_l6, q_l7, q_l8, q_l9, q_l10, q_l11, q_l12, q_l13, q_ret, q_bind, q_bindn, q_map, q_mapn, q_one, q_zero, q_evT, q_own, evNeg, startR, List.getElem?_cons_succ, List.getElem?_cons_zero, List.set_cons_succ, List.set_cons_zero, List.map_cons, List.map_nil, List.replicate, List.length_cons, List.length_nil, List.append_eq, List.nil_append, List.cons_append, Bool.and_true, Bool.true_and, Bool.and_false, Bool.false_and, Bool.not_true, Bool.not_false, if_true, if_false, reduceCtorEq, Nat.reduceSub, Nat.reduceAdd, Nat.reduceLeDiff, Bool.false_eq_true, Bool.or_false, Bool.false_or, ite_true, ite_false, n_add, lenOk_0, lenOk_1, lenOk_2, lenOk_3, lenOk_4, lenOk_5, lenOk_6, lenOk_7, lenOk_8, all_ways_is hm0 hm hn h1]
    obtain ⟨ys, e1, e2⟩ := keepO_comp (F := fun d => (asg (.nm 2) d [sN m, sN n, none]).bind fun ρ2 => (evC (.yes (.call f_comes_from_edge_to_edge (.cons (.v 2) .nil))) ρ2).bind fun k => match k with
      | false => some none
      | true => (evE (.v 2) false ρ2).map fun r => some r.2) r.reverse c hk fun w hw b hb => by
        have hl2 : w.length < 64 := of_decide_eq_true (List.all_eq_true.mp hl w (List.mem_reverse.mp hw))
        simp only [q_wipeR_1, q_wipeR_2, q_asg_1, q_asg_2, q_asg_3, q_asg_4, q_asgR_1, q_ownedArg_1, q_ownedArgs_1, q_ownedArgs_2, q_itemsOf_1, q_itemsOf_2, q_evE_1, q_evE_2, q_evE_3, q_evE_4, q_evE_5, q_evE_6, q_evE_7, q_evE_8, q_evE_9, q_evE_10, q_evE_11, q_evE_12, q_evE_13, q_evE_14, q_evE_15, q_evE_16, q_evE_17, q_evE_18, q_evE_19, q_evE_20, q_evEs_1, q_evEs_2, q_evP_1, q_evP_2, q_evC_1, q_evC_2, q_evI_1, q_evI_2, q_evRet_1, q_evS_1, q_evS_2, q_evS_3, q_evS_4, q_evS_5, q_evS_6, q_evS_7, q_evS_8, q_evS_9, q_evS_10, q_evS_11, q_evS_12, q_evS_13, q_evS_14, q_evS_15, q_evS_16, q_evSs_1, q_evSs_2, q_oa_0, q_rt_0, q_oa_1, q_rt_1, q_oa_2, q_rt_2, q_oa_3, q_rt_3, q_oa_4, q_rt_4, q_oa_5, q_rt_5, q_oa_6, q_rt_6, q_oa_7, q_rt_7, q_oa_8, q_rt_8, q_oa_9, q_rt_9, q_oa_10, q_rt_10, q_oa_11, q_rt_11, q_oa_12, q_rt_12, q_oa_13, q_rt_13, q_oa_14, q_rt_14, q_oa_15, q_rt_15, q_oa_16, q_rt_16, q_oa_17, q_rt_17, q_ar_0, q_ar_1, q_ar_2, asI_N, asI_i, q_l2, q_l3, q_l4, q_l5, q_l6, q_l7, q_l8, q_l9, q_l10, q_l11, q_l12, q_l13, q_ret, q_bind, q_bindn, q_map, q_mapn, q_one, q_zero, q_evT, q_own, evNeg, startR, List.getElem?_cons_succ, List.getElem?_cons_zero, List.set_cons_succ, List.set_cons_zero, List.map_cons, List.map_nil, List.replicate, List.length_cons, List.length_nil, List.append_eq, List.nil_append, List.cons_append, Bool.and_true, Bool.true_and, Bool.and_false, Bool.false_and, Bool.not_true, Bool.not_false, if_true, if_false, reduceCtorEq, Nat.reduceSub, Nat.reduceAdd, Nat.reduceLeDiff, Bool.false_eq_true, Bool.or_false, Bool.false_or, ite_true, ite_false, n_add, lenOk_0, lenOk_1, lenOk_2, lenOk_3, lenOk_4, lenOk_5, lenOk_6, lenOk_7, lenOk_8, comes_is hb hl2]
        cases b <;> simp only [q_wipeR_1, q_wipeR_2, q_asg_1, q_asg_2, q_asg_3, q_asg_4, q_asgR_1, q_ownedArg_1, q_ownedArgs_1, q_ownedArgs_2, q_itemsOf_1, q_itemsOf_2, q_evE_1, q_evE_2, q_evE_3, q_evE_4, q_evE_5, q_evE_6, q_evE_7, q_evE_8, q_evE_9, q_evE_10, q_evE_11, q_evE_12, q_evE_13, q_evE_14, q_evE_15, q_evE_16, q_evE_17, q_evE_18, q_evE_19, q_evE_20, q_evEs_1, q_evEs_2, q_evP_1, q_evP_2, q_evC_1, q_evC_2, q_evI_1, q_evI_2, q_evRet_1, q_evS_1, q_evS_2, q_evS_3, q_evS_4, q_evS_5, q_evS_6, q_evS_7, q_evS_8, q_evS_9, q_evS_10, q_evS_11, q_evS_12, q_evS_13, q_evS_14, q_evS_15, q_evS_16, q_evSs_1, q_evSs_2, q_oa_0, q_rt_0, q_oa_1, q_rt_1, q_oa_2, q_rt_2, q_oa_3, q_rt_3, q_oa_4, q_rt_4, q_oa_5, q_rt_5, q_oa_6, q_rt_6, q_oa_7, q_rt_7, q_oa_8, q_rt_8, q_oa_9, q_rt_9, q_oa_10, q_rt_10, q_oa_11, q_rt_11, q_oa_12, q_rt_12, q_oa_13, q_rt_13, q_oa_14, q_rt_14, q_oa_15, q_rt_15, q_oa_16, q_rt_16, q_oa_17, q_rt_17, q_ar_0, q_ar_1, q_ar_2, asI_N, asI_i, q_l2, q_l3, q_l4, q_l5, q_l6, q_l7, q_l8, q_l9, q_l10, q_l11, q_l12, q_l13, q_ret, q_bind, q_bindn, q_map, q_mapn, q_one, q_zero, q_evT, q_own, evNeg, startR, List.getElem?_cons_succ, List.getElem?_cons_zero, List.set_cons_succ, List.set_cons_zero, List.map_cons, List.map_nil, List.replicate, List.length_cons, List.length_nil, List.append_eq, List.nil_append, List.cons_append, Bool.and_true, Bool.true_and, Bool.and_false, Bool.false_and, Bool.not_true, Bool.not_false, if_true, if_false, reduceCtorEq, Nat.reduceSub, Nat.reduceAdd, Nat.reduceLeDiff, Bool.false_eq_true, Bool.or_false, Bool.false_or, ite_true, ite_false, n_add, lenOk_0, lenOk_1, lenOk_2, lenOk_3, lenOk_4, lenOk_5, lenOk_6, lenOk_7, lenOk_8]
    refine ⟨ys, ?_, e2⟩
    simp only [q_wipeR_1, q_wipeR_2, q_asg_1, q_asg_2, q_asg_3, q_asg_4, q_asgR_1, q_ownedArg_1, q_ownedArgs_1, q_ownedArgs_2, q_itemsOf_1, q_itemsOf_2, q_evE_1, q_evE_2, q_evE_3, q_evE_4, q_evE_5, q_evE_6, q_evE_7, q_evE_8, q_evE_9, q_evE_10, q_evE_11, q_evE_12, q_evE_13, q_evE_14, q_evE_15, q_evE_16, q_evE_17, q_evE_18, q_evE_19, q_evE_20, q_evEs_1, q_evEs_2, q_evP_1, q_evP_2, q_evC_1, q_evC_2, q_evI_1, q_evI_2, q_evRet_1, q_evS_1, q_evS_2, q_evS_3, q_evS_4, q_evS_5, q_evS_6, q_evS_7, q_evS_8, q_evS_9, q_evS_10, q_evS_11, q_evS_12, q_evS_13, q_evS_14, q_evS_15, q_evS_16, q_evSs_1, q_evSs_2, q_oa_0, q_rt_0, q_oa_1, q_rt_1, q_oa_2, q_rt_2, q_oa_3, q_rt_3, q_oa_4, q_rt_4, q_oa_5, q_rt_5, q_oa_6, q_rt_6, q_oa_7, q_rt_7, q_oa_8, q_rt_8, q_oa_9, q_rt_9, q_oa_10, q_rt_10, q_oa_11, q_rt_11, q_oa_12, q_rt_12, q_oa_13, q_rt_13, q_oa_14, q_rt_14, q_oa_15, q_rt_15, q_oa_16, q_rt_16, q_oa_17, q_rt_17, q_ar_0, q_ar_1, q_ar_2, asI_N, asI_i, q_l2, q_l3, q_l4, q_l5, q_l6, q_l7, q_l8, q_l9, q_l10, q_l11, q_l12, q_l13, q_ret, q_bind, q_bindn, q_map, q_mapn, q_one, q_zero, q_evT, q_own, evNeg, startR, List.getElem?_cons_succ, List.getElem?_cons_zero, List.set_cons_succ, List.set_cons_zero, List.map_cons, List.map_nil, List.replicate, List.length_cons, List.length_nil, List.append_eq, List.nil_append, List.cons_append, Bool.and_true, Bool.true_and, Bool.and_false, Bool.false_and, Bool.not_true, Bool.not_false, if_true, if_false, reduceCtorEq, Nat.reduceSub, Nat.reduceAdd, Nat.reduceLeDiff, Bool.false_eq_true, Bool.or_false, Bool.false_or, ite_true, ite_false, n_add, lenOk_0, lenOk_1, lenOk_2, lenOk_3, lenOk_4, lenOk_5, lenOk_6, lenOk_7, lenOk_8] at e1
    exact congrArg (Option.map fun ys => (true, PyData.list ys)) e1
  obtain ⟨ys, e1, e2⟩ := e
  unfold f_count_tree_cuttings evDef ir_count_tree_cuttings
  simp only [q_wipeR_1, q_wipeR_2, q_asg_1, q_asg_2, q_asg_3, q_asg_4, q_asgR_1, q_ownedArg_1, q_ownedArgs_1, q_ownedArgs_2, q_itemsOf_1, q_itemsOf_2, q_evE_1, q_evE_2, q_evE_3, q_evE_4, q_evE_5, q_evE_6, q_evE_7, q_evE_8, q_evE_9, q_evE_10, q_evE_11, q_evE_12, q_evE_13, q_evE_14, q_evE_15, q_evE_16, q_evE_17, q_evE_18, q_evE_19, q_evE_20, q_evEs_1, q_evEs_2, q_evP_1, q_evP_2, q_evC_1, q_evC_2, q_evI_1, q_evI_2, q_evRet_1, q_evS_1, q_evS_2, q_evS_3, q_evS_4, q_evS_5, q_evS_6, q_evS_7, q_evS_8, q_evS_9, q_evS_10, q_evS_11, q_evS_12, q_evS_13, q_evS_14, q_evS_15, q_evS_16, q_evSs_1, q_evSs_2, q_oa_0, q_rt_0, q_oa_1, q_rt_1, q_oa_2, q_rt_2, q_oa_3, q_rt_3, q_oa_4, q_rt_4, q_oa_5, q_rt_5, q_oa_6, q_rt_6, q_oa_7, q_rt_7, q_oa_8, q_rt_8, q_oa_9, q_rt_9, q_oa_10, q_rt_10, q_oa_11, q_rt_11, q_oa_12, q_rt_12, q_oa_13, q_rt_13, q_oa_14, q_rt_14, q_oa_15, q_rt_15, q_oa_16, q_rt_16, q_oa_17, q_rt_17, q_ar_0, q_ar_1, q_ar_2, asI_N, asI_i, q_l2, q_l3, q_l4, q_l5, q_l6, q_l7, q_l8, q_l9, q_l10, q_l11, q_l12, q_l13, q_ret, q_bind, q_bindn, q_map, q_mapn, q_one, q_zero, q_evT, q_own, evNeg, startR, List.getElem?_cons_succ, List.getElem?_cons_zero, List.set_cons_succ, List.set_cons_zero, List.map_cons, List.map_nil, List.replicate, List.length_cons, List.length_nil, List.append_eq, List.nil_append, List.cons_append, Bool.and_true, Bool.true_and, Bool.and_false, Bool.false_and, Bool.not_true, Bool.not_false, if_true, if_false, reduceCtorEq, Nat.reduceSub, Nat.reduceAdd, Nat.reduceLeDiff, Bool.false_eq_true, Bool.or_false, Bool.false_or, ite_true, ite_false, n_add, lenOk_0, lenOk_1, lenOk_2, lenOk_3, lenOk_4, lenOk_5, lenOk_6, lenOk_7, lenOk_8, e1, n_len, e2]
end K88

set_option Elab.async false
set_option linter.all false
set_option maxRecDepth 100000
set_option maxHeartbeats 4000000
namespace K88
open PySem L2 PV
/-! ### the law's ways -/
def lrow (m x y w : Nat) (row : Nat) : Nat := ((List.range w).map fun col => 1 * 2 ^ ((y + row) * m + x + col)).sum
def lmk (m x y w h : Nat) : Nat := ((List.range h).map (lrow m x y w)).sum
theorem lm_inner {m x y w h row acc : Nat} {j7 : Option R} (hm : m ≤ 20) (hx : x + w ≤ 100) (hy : y + row ≤ 100) :
    ∃ k7, forGo (.nm 7) (blk FUEL ib__law_mark_1) ((List.range w).map N) [sN m, sN x, sN y, sN w, sN h, sN acc, sN row, j7] = some (.nx [sN m, sN x, sN y, sN w, sN h, sN (acc + lrow m x y w row), sN row, k7]) := by
  obtain ⟨ρ', e, k7, rfl⟩ := forGo_do (g := .nm 7) (f := blk FUEL ib__law_mark_1) N (fun pre ρ => ∃ k7, ρ = [sN m, sN x, sN y, sN w, sN h, sN (acc + (pre.map fun col => 1 * 2 ^ ((y + row) * m + x + col)).sum), sN row, k7]) (l := List.range w) (ρ := [sN m, sN x, sN y, sN w, sN h, sN acc, sN row, j7]) ⟨j7, by simp⟩ (by
    rintro pre c suf ρ hs ⟨k7, rfl⟩
    have hc : c ∈ List.range w := by rw [hs]; simp
    rw [List.mem_range] at hc
    have hb : (y + row) * m ≤ 100 * 20 := Nat.mul_le_mul hy hm
    refine ⟨_, _, rfl, ?_, sN c, rfl⟩
    unfold blk ib__law_mark_1
    simp only [q_wipeR_1, q_wipeR_2, q_asg_1, q_asg_2, q_asg_3, q_asg_4, q_asgR_1, q_ownedArg_1, q_ownedArgs_1, q_ownedArgs_2, q_itemsOf_1, q_itemsOf_2, q_evE_1, q_evE_2, q_evE_3, q_evE_4, q_evE_5, q_evE_6, q_evE_7, q_evE_8, q_evE_9, q_evE_10, q_evE_11, q_evE_12, q_evE_13, q_evE_14, q_evE_15, q_evE_16, q_evE_17, q_evE_18, q_evE_19, q_evE_20, q_evEs_1, q_evEs_2, q_evP_1, q_evP_2, q_evC_1, q_evC_2, q_evI_1, q_evI_2, q_evRet_1, q_evS_1, q_evS_2, q_evS_3, q_evS_4, q_evS_5, q_evS_6, q_evS_7, q_evS_8, q_evS_9, q_evS_10, q_evS_11, q_evS_12, q_evS_13, q_evS_14, q_evS_15, q_evS_16, q_evSs_1, q_evSs_2, q_oa_0, q_rt_0, q_oa_1, q_rt_1, q_oa_2, q_rt_2, q_oa_3, q_rt_3, q_oa_4, q_rt_4, q_oa_5, q_rt_5, q_oa_6, q_rt_6, q_oa_7, q_rt_7, q_oa_8, q_rt_8, q_oa_9, q_rt_9, q_oa_10, q_rt_10, q_oa_11, q_rt_11, q_oa_12, q_rt_12, q_oa_13, q_rt_13, q_oa_14, q_rt_14, q_oa_15, q_rt_15, q_oa_16, q_rt_16, q_oa_17, q_rt_17, q_ar_0, q_ar_1, q_ar_2, asI_N, asI_i, q_l2, q_l3, q_l4, q_l5, q_l6, q_l7, q_l8, q_l9, q_l10, q_l11, q_l12, q_l13, q_ret, q_bind, q_bindn, q_map, q_mapn, q_one, q_zero, q_evT, q_own, evNeg, startR, List.getElem?_cons_succ, List.getElem?_cons_zero, List.set_cons_succ, List.set_cons_zero, List.map_cons, List.map_nil, List.replicate, List.length_cons, List.length_nil, List.append_eq, List.nil_append, List.cons_append, Bool.and_true, Bool.true_and, Bool.and_false, Bool.false_and, Bool.not_true, Bool.not_false, if_true, if_false, reduceCtorEq, Nat.reduceSub, Nat.reduceAdd, Nat.reduceLeDiff, Bool.false_eq_true, Bool.or_false, Bool.false_or, ite_true, ite_false, n_add, lenOk_0, lenOk_1, lenOk_2, lenOk_3, lenOk_4, lenOk_5, lenOk_6, lenOk_7, lenOk_8, n_mul (show y + row < 2 ^ 64 by omega) (show m < 2 ^ 64 by omega), n_shl (show 1 < 2 ^ 64 by decide) (show (y + row) * m + x + c ≤ 1000000 by omega)]
    rw [List.map_append, List.sum_append]
    simp only [List.map_cons, List.map_nil, List.sum_cons, List.sum_nil, Nat.add_zero, Nat.add_assoc])
  exact ⟨k7, e⟩
theorem law_mark_is {m x y w h : Nat} (hm : m ≤ 20) (hx : x + w ≤ 100) (hy : y + h ≤ 100) : f__law_mark [N m, N x, N y, N w, N h] = some (false, N (lmk m x y w h)) := by
  obtain ⟨ρ', e, k6, k7, rfl⟩ := forGo_do (g := .nm 6) (f := blk FUEL ib__law_mark_2) N (fun pre ρ => ∃ k6 k7, ρ = [sN m, sN x, sN y, sN w, sN h, sN ((pre.map (lrow m x y w)).sum), k6, k7]) (l := List.range h) (ρ := [sN m, sN x, sN y, sN w, sN h, sN 0, none, none]) ⟨none, none, rfl⟩ (by
    rintro pre r suf ρ hs ⟨k6, k7, rfl⟩
    have hc : r ∈ List.range h := by rw [hs]; simp
    rw [List.mem_range] at hc
    obtain ⟨k8, e⟩ := lm_inner (m := m) (x := x) (y := y) (w := w) (h := h) (row := r) (acc := (pre.map (lrow m x y w)).sum) (j7 := k7) hm hx (by omega)
    refine ⟨_, _, rfl, ?_, sN r, k8, rfl⟩
    unfold blk ib__law_mark_2
    simp only [q_wipeR_1, q_wipeR_2, q_asg_1, q_asg_2, q_asg_3, q_asg_4, q_asgR_1, q_ownedArg_1, q_ownedArgs_1, q_ownedArgs_2, q_itemsOf_1, q_itemsOf_2, q_evE_1, q_evE_2, q_evE_3, q_evE_4, q_evE_5, q_evE_6, q_evE_7, q_evE_8, q_evE_9, q_evE_10, q_evE_11, q_evE_12, q_evE_13, q_evE_14, q_evE_15, q_evE_16, q_evE_17, q_evE_18, q_evE_19, q_evE_20, q_evEs_1, q_evEs_2, q_evP_1, q_evP_2, q_evC_1, q_evC_2, q_evI_1, q_evI_2, q_evRet_1, q_evS_1, q_evS_2, q_evS_3, q_evS_4, q_evS_5, q_evS_6, q_evS_7, q_evS_8, q_evS_9, q_evS_10, q_evS_11, q_evS_12, q_evS_13, q_evS_14, q_evS_15, q_evS_16, q_evSs_1, q_evSs_2, q_oa_0, q_rt_0, q_oa_1, q_rt_1, q_oa_2, q_rt_2, q_oa_3, q_rt_3, q_oa_4, q_rt_4, q_oa_5, q_rt_5, q_oa_6, q_rt_6, q_oa_7, q_rt_7, q_oa_8, q_rt_8, q_oa_9, q_rt_9, q_oa_10, q_rt_10, q_oa_11, q_rt_11, q_oa_12, q_rt_12, q_oa_13, q_rt_13, q_oa_14, q_rt_14, q_oa_15, q_rt_15, q_oa_16, q_rt_16, q_oa_17, q_rt_17, q_ar_0, q_ar_1, q_ar_2, asI_N, asI_i, q_l2, q_l3, q_l4, q_l5, q_l6, q_l7, q_l8, q_l9, q_l10, q_l11, q_l12, q_l13, q_ret, q_bind, q_bindn, q_map, q_mapn, q_one, q_zero, q_evT, q_own, evNeg, startR, List.getElem?_cons_succ, List.getElem?_cons_zero, List.set_cons_succ, List.set_cons_zero, List.map_cons, List.map_nil, List.replicate, List.length_cons, List.length_nil, List.append_eq, List.nil_append, List.cons_append, Bool.and_true, Bool.true_and, Bool.and_false, Bool.false_and, Bool.not_true, Bool.not_false, if_true, if_false, reduceCtorEq, Nat.reduceSub, Nat.reduceAdd, Nat.reduceLeDiff, Bool.false_eq_true, Bool.or_false, Bool.false_or, ite_true, ite_false, n_add, lenOk_0, lenOk_1, lenOk_2, lenOk_3, lenOk_4, lenOk_5, lenOk_6, lenOk_7, lenOk_8, n_rng1 (show w ≤ 1000000 by omega)]
    rw [e]
    rw [List.map_append, List.sum_append]
    simp only [List.map_cons, List.map_nil, List.sum_cons, List.sum_nil, Nat.add_zero])
  unfold f__law_mark evDef ir__law_mark
  simp only [q_wipeR_1, q_wipeR_2, q_asg_1, q_asg_2, q_asg_3, q_asg_4, q_asgR_1, q_ownedArg_1, q_ownedArgs_1, q_ownedArgs_2, q_itemsOf_1, q_itemsOf_2, q_evE_1, q_evE_2, q_evE_3, q_evE_4, q_evE_5, q_evE_6, q_evE_7, q_evE_8, q_evE_9, q_evE_10, q_evE_11, q_evE_12, q_evE_13, q_evE_14, q_evE_15, q_evE_16, q_evE_17, q_evE_18, q_evE_19, q_evE_20, q_evEs_1, q_evEs_2, q_evP_1, q_evP_2, q_evC_1, q_evC_2, q_evI_1, q_evI_2, q_evRet_1, q_evS_1, q_evS_2, q_evS_3, q_evS_4, q_evS_5, q_evS_6, q_evS_7, q_evS_8, q_evS_9, q_evS_10, q_evS_11, q_evS_12, q_evS_13, q_evS_14, q_evS_15, q_evS_16, q_evSs_1, q_evSs_2, q_oa_0, q_rt_0, q_oa_1, q_rt_1, q_oa_2, q_rt_2, q_oa_3, q_rt_3, q_oa_4, q_rt_4, q_oa_5, q_rt_5, q_oa_6, q_rt_6, q_oa_7, q_rt_7, q_oa_8, q_rt_8, q_oa_9, q_rt_9, q_oa_10, q_rt_10, q_oa_11, q_rt_11, q_oa_12, q_rt_12, q_oa_13, q_rt_13, q_oa_14, q_rt_14, q_oa_15, q_rt_15, q_oa_16, q_rt_16, q_oa_17, q_rt_17, q_ar_0, q_ar_1, q_ar_2, asI_N, asI_i, q_l2, q_l3, q_l4, q_l5, q_l6, q_l7, q_l8, q_l9, q_l10, q_l11, q_l12, q_l13, q_ret, q_bind, q_bindn, q_map, q_mapn, q_one, q_zero, q_evT, q_own, evNeg, startR, List.getElem?_cons_succ, List.getElem?_cons_zero, List.set_cons_succ, List.set_cons_zero, List.map_cons, List.map_nil, List.replicate, List.length_cons, List.length_nil, List.append_eq, List.nil_append, List.cons_append, Bool.and_true, Bool.true_and, Bool.and_false, Bool.false_and, Bool.not_true, Bool.not_false, if_true, if_false, reduceCtorEq, Nat.reduceSub, Nat.reduceAdd, Nat.reduceLeDiff, Bool.false_eq_true, Bool.or_false, Bool.false_or, ite_true, ite_false, n_add, lenOk_0, lenOk_1, lenOk_2, lenOk_3, lenOk_4, lenOk_5, lenOk_6, lenOk_7, lenOk_8, n_rng1 (show h ≤ 1000000 by omega)]
  rw [e]
  simp only [q_wipeR_1, q_wipeR_2, q_asg_1, q_asg_2, q_asg_3, q_asg_4, q_asgR_1, q_ownedArg_1, q_ownedArgs_1, q_ownedArgs_2, q_itemsOf_1, q_itemsOf_2, q_evE_1, q_evE_2, q_evE_3, q_evE_4, q_evE_5, q_evE_6, q_evE_7, q_evE_8, q_evE_9, q_evE_10, q_evE_11, q_evE_12, q_evE_13, q_evE_14, q_evE_15, q_evE_16, q_evE_17, q_evE_18, q_evE_19, q_evE_20, q_evEs_1, q_evEs_2, q_evP_1, q_evP_2, q_evC_1, q_evC_2, q_evI_1, q_evI_2, q_evRet_1, q_evS_1, q_evS_2, q_evS_3, q_evS_4, q_evS_5, q_evS_6, q_evS_7, q_evS_8, q_evS_9, q_evS_10, q_evS_11, q_evS_12, q_evS_13, q_evS_14, q_evS_15, q_evS_16, q_evSs_1, q_evSs_2, q_oa_0, q_rt_0, q_oa_1, q_rt_1, q_oa_2, q_rt_2, q_oa_3, q_rt_3, q_oa_4, q_rt_4, q_oa_5, q_rt_5, q_oa_6, q_rt_6, q_oa_7, q_rt_7, q_oa_8, q_rt_8, q_oa_9, q_rt_9, q_oa_10, q_rt_10, q_oa_11, q_rt_11, q_oa_12, q_rt_12, q_oa_13, q_rt_13, q_oa_14, q_rt_14, q_oa_15, q_rt_15, q_oa_16, q_rt_16, q_oa_17, q_rt_17, q_ar_0, q_ar_1, q_ar_2, asI_N, asI_i, q_l2, q_l3, q_l4, q_l5, q_l6, q_l7, q_l8, q_l9, q_l10, q_l11, q_l12, q_l13, q_ret, q_bind, q_bindn, q_map, q_mapn, q_one, q_zero, q_evT, q_own, evNeg, startR, List.getElem?_cons_succ, List.getElem?_cons_zero, List.set_cons_succ, List.set_cons_zero, List.map_cons, List.map_nil, List.replicate, List.length_cons, List.length_nil, List.append_eq, List.nil_append, List.cons_append, Bool.and_true, Bool.true_and, Bool.and_false, Bool.false_and, Bool.not_true, Bool.not_false, if_true, if_false, reduceCtorEq, Nat.reduceSub, Nat.reduceAdd, Nat.reduceLeDiff, Bool.false_eq_true, Bool.or_false, Bool.false_or, ite_true, ite_false, n_add, lenOk_0, lenOk_1, lenOk_2, lenOk_3, lenOk_4, lenOk_5, lenOk_6, lenOk_7, lenOk_8]
  rfl
def encT (p : List B × Nat) : PyData := .tuple [N p.2, encW p.1]
def lrow1 (m filled x y w h : Nat) : Option (B × Nat) := if filled &&& lmk m x y w h = 0 then some ((y, x, h, w), filled + lmk m x y w h) else none
def lcol (n m filled x y : Nat) (w : Nat) : List (B × Nat) := (List.range' 1 (n - y)).filterMap (lrow1 m filled x y w)
def nextL (m n filled : Nat) : Option (List (B × Nat)) := (fe (m * n) filled).map fun a => (List.range' 1 (m - a % m)).flatMap (lcol n m filled (a % m) (a / m))
def encTW (way : List B) (p : B × Nat) : PyData := encT (way ++ [p.1], p.2)
theorem lw_inner {m n filled x y w : Nat} {way : List B} {d2 d6 d7 : Option R} {acc : List PyData} {j11 j12 : Option R} (hm : m ≤ 20) (hn : n ≤ 20) (hy : y < n) (hw : x + w ≤ m) (ha : acc.length ≤ 16500000) (hway : way.length ≤ 1000000) :
    ∃ k11 k12, forGo (.nm 11) (blk FUEL ib__law_ways_2) ((List.range' 1 (n - y)).map N) [sN m, sN n, d2, some (true, .list acc), sN filled, some (false, encW way), d6, d7, sN x, sN y, sN w, j11, j12] =
      some (.nx [sN m, sN n, d2, some (true, .list (acc ++ (lcol n m filled x y w).map (encTW way))), sN filled, some (false, encW way), d6, d7, sN x, sN y, sN w, k11, k12]) := by
  obtain ⟨ρ', e, k11, k12, rfl⟩ := forGo_do (g := .nm 11) (f := blk FUEL ib__law_ways_2) N (fun pre ρ => ∃ k11 k12, ρ = [sN m, sN n, d2, some (true, .list (acc ++ (pre.filterMap (lrow1 m filled x y w)).map (encTW way))), sN filled, some (false, encW way), d6, d7, sN x, sN y, sN w, k11, k12]) (l := List.range' 1 (n - y)) (ρ := [sN m, sN n, d2, some (true, .list acc), sN filled, some (false, encW way), d6, d7, sN x, sN y, sN w, j11, j12]) ⟨j11, j12, by simp⟩ (by
    rintro pre h suf ρ hs ⟨k11, k12, rfl⟩
    have hc : h ∈ List.range' 1 (n - y) := by rw [hs]; simp
    rw [List.mem_range'_1] at hc
    have hp : pre.length ≤ n - y := by
      have := congrArg List.length hs
      rw [List.length_range', List.length_append] at this
      omega
    have hf := List.length_filterMap_le (lrow1 m filled x y w) pre
    refine ⟨_, _, rfl, ?_, sN h, sN (lmk m x y w h), rfl⟩
    unfold blk ib__law_ways_2
    simp only [q_wipeR_1, q_wipeR_2, q_asg_1, q_asg_2, q_asg_3, q_asg_4, q_asgR_1, q_ownedArg_1, q_ownedArgs_1, q_ownedArgs_2, q_itemsOf_1, q_itemsOf_2, q_evE_1, q_evE_2, q_evE_3, q_evE_4, q_evE_5, q_evE_6, q_evE_7, q_evE_8, q_evE_9, q_evE_10, q_evE_11, q_evE_12, q_evE_13, q_evE_14, q_evE_15, q_evE_16, q_evE_17, q_evE_18, q_evE_19, q_evE_20, q_evEs_1, q_evEs_2, q_evP_1, q_evP_2, q_evC_1, q_evC_2, q_evI_1, q_evI_2, q_evRet_1, q_evS_1, q_evS_2, q_evS_3, q_evS_4, q_evS_5, q_evS_6, q_evS_7, q_evS_8, q_evS_9, q_evS_10, q_evS_11, q_evS_12, q_evS_13, q_evS_14, q_evS_15, q_evS_16, q_evSs_1, q_evSs_2, q_oa_0, q_rt_0, q_oa_1, q_rt_1, q_oa_2, q_rt_2, q_oa_3, q_rt_3, q_oa_4, q_rt_4, q_oa_5, q_rt_5, q_oa_6, q_rt_6, q_oa_7, q_rt_7, q_oa_8, q_rt_8, q_oa_9, q_rt_9, q_oa_10, q_rt_10, q_oa_11, q_rt_11, q_oa_12, q_rt_12, q_oa_13, q_rt_13, q_oa_14, q_rt_14, q_oa_15, q_rt_15, q_oa_16, q_rt_16, q_oa_17, q_rt_17, q_ar_0, q_ar_1, q_ar_2, asI_N, asI_i, q_l2, q_l3, q_l4, q_l5, q_l6, q_l7, q_l8, q_l9, q_l10, q_l11, q_l12, q_l13, q_ret, q_bind, q_bindn, q_map, q_mapn, q_one, q_zero, q_evT, q_own, evNeg, startR, List.getElem?_cons_succ, List.getElem?_cons_zero, List.set_cons_succ, List.set_cons_zero, List.map_cons, List.map_nil, List.replicate, List.length_cons, List.length_nil, List.append_eq, List.nil_append, List.cons_append, Bool.and_true, Bool.true_and, Bool.and_false, Bool.false_and, Bool.not_true, Bool.not_false, if_true, if_false, reduceCtorEq, Nat.reduceSub, Nat.reduceAdd, Nat.reduceLeDiff, Bool.false_eq_true, Bool.or_false, Bool.false_or, ite_true, ite_false, n_add, lenOk_0, lenOk_1, lenOk_2, lenOk_3, lenOk_4, lenOk_5, lenOk_6, lenOk_7, lenOk_8, law_mark_is hm (show x + w ≤ 100 by omega) (show y + h ≤ 100 by omega), n_band, n_eq]
    rw [List.filterMap_append, List.map_append]
    by_cases hb : filled &&& lmk m x y w h = 0
    · have e : lrow1 m filled x y w h = some ((y, x, h, w), filled + lmk m x y w h) := if_pos hb
      simp only [q_wipeR_1, q_wipeR_2, q_asg_1, q_asg_2, q_asg_3, q_asg_4, q_asgR_1, q_ownedArg_1, q_ownedArgs_1, q_ownedArgs_2, q_itemsOf_1, q_itemsOf_2, q_evE_1, q_evE_2, q_evE_3, q_evE_4, q_evE_5, q_evE_6, q_evE_7, q_evE_8, q_evE_9, q_evE_10, q_evE_11, q_evE_12, q_evE_13, q_evE_14, q_evE_15, q_evE_16, q_evE_17, q_evE_18, q_evE_19, q_evE_20, q_evEs_1, q_evEs_2, q_evP_1, q_evP_2, q_evC_1, q_evC_2, q_evI_1, q_evI_2, q_evRet_1, q_evS_1, q_evS_2, q_evS_3, q_evS_4, q_evS_5, q_evS_6, q_evS_7, q_evS_8, q_evS_9, q_evS_10, q_evS_11, q_evS_12, q_evS_13, q_evS_14, q_evS_15, q_evS_16, q_evSs_1, q_evSs_2, q_oa_0, q_rt_0, q_oa_1, q_rt_1, q_oa_2, q_rt_2, q_oa_3, q_rt_3, q_oa_4, q_rt_4, q_oa_5, q_rt_5, q_oa_6, q_rt_6, q_oa_7, q_rt_7, q_oa_8, q_rt_8, q_oa_9, q_rt_9, q_oa_10, q_rt_10, q_oa_11, q_rt_11, q_oa_12, q_rt_12, q_oa_13, q_rt_13, q_oa_14, q_rt_14, q_oa_15, q_rt_15, q_oa_16, q_rt_16, q_oa_17, q_rt_17, q_ar_0, q_ar_1, q_ar_2, asI_N, asI_i, q_l2, q_l3, q_l4, q_l5, q_l6, q_l7, q_l8, q_l9, q_l10, q_l11, q_l12, q_l13, q_ret, q_bind, q_bindn, q_map, q_mapn, q_one, q_zero, q_evT, q_own, evNeg, startR, List.getElem?_cons_succ, List.getElem?_cons_zero, List.set_cons_succ, List.set_cons_zero, List.map_cons, List.map_nil, List.replicate, List.length_cons, List.length_nil, List.append_eq, List.nil_append, List.cons_append, Bool.and_true, Bool.true_and, Bool.and_false, Bool.false_and, Bool.not_true, Bool.not_false, if_true, if_false, reduceCtorEq, Nat.reduceSub, Nat.reduceAdd, Nat.reduceLeDiff, Bool.false_eq_true, Bool.or_false, Bool.false_or, ite_true, ite_false, n_add, lenOk_0, lenOk_1, lenOk_2, lenOk_3, lenOk_4, lenOk_5, lenOk_6, lenOk_7, lenOk_8, hb, decide_true, List.filterMap_cons_some e, List.filterMap_nil, encW, evBin, List.length_map]
      rw [if_pos (lenOk_of (by omega))]
      simp only [q_wipeR_1, q_wipeR_2, q_asg_1, q_asg_2, q_asg_3, q_asg_4, q_asgR_1, q_ownedArg_1, q_ownedArgs_1, q_ownedArgs_2, q_itemsOf_1, q_itemsOf_2, q_evE_1, q_evE_2, q_evE_3, q_evE_4, q_evE_5, q_evE_6, q_evE_7, q_evE_8, q_evE_9, q_evE_10, q_evE_11, q_evE_12, q_evE_13, q_evE_14, q_evE_15, q_evE_16, q_evE_17, q_evE_18, q_evE_19, q_evE_20, q_evEs_1, q_evEs_2, q_evP_1, q_evP_2, q_evC_1, q_evC_2, q_evI_1, q_evI_2, q_evRet_1, q_evS_1, q_evS_2, q_evS_3, q_evS_4, q_evS_5, q_evS_6, q_evS_7, q_evS_8, q_evS_9, q_evS_10, q_evS_11, q_evS_12, q_evS_13, q_evS_14, q_evS_15, q_evS_16, q_evSs_1, q_evSs_2, q_oa_0, q_rt_0, q_oa_1, q_rt_1, q_oa_2, q_rt_2, q_oa_3, q_rt_3, q_oa_4, q_rt_4, q_oa_5, q_rt_5, q_oa_6, q_rt_6, q_oa_7, q_rt_7, q_oa_8, q_rt_8, q_oa_9, q_rt_9, q_oa_10, q_rt_10, q_oa_11, q_rt_11, q_oa_12, q_rt_12, q_oa_13, q_rt_13, q_oa_14, q_rt_14, q_oa_15, q_rt_15, q_oa_16, q_rt_16, q_oa_17, q_rt_17, q_ar_0, q_ar_1, q_ar_2, asI_N, asI_i, q_l2, q_l3, q_l4, q_l5, q_l6, q_l7, q_l8, q_l9, q_l10, q_l11, q_l12, q_l13, q_ret, q_bind, q_bindn, q_map, q_mapn, q_one, q_zero, q_evT, q_own, evNeg, startR, List.getElem?_cons_succ, List.getElem?_cons_zero, List.set_cons_succ, List.set_cons_zero, List.map_cons, List.map_nil, List.replicate, List.length_cons, List.length_nil, List.append_eq, List.nil_append, List.cons_append, Bool.and_true, Bool.true_and, Bool.and_false, Bool.false_and, Bool.not_true, Bool.not_false, if_true, if_false, reduceCtorEq, Nat.reduceSub, Nat.reduceAdd, Nat.reduceLeDiff, Bool.false_eq_true, Bool.or_false, Bool.false_or, ite_true, ite_false, n_add, lenOk_0, lenOk_1, lenOk_2, lenOk_3, lenOk_4, lenOk_5, lenOk_6, lenOk_7, lenOk_8]
      rw [if_pos (lenOk_of (by rw [List.length_append, List.length_map]; omega))]
      simp only [q_wipeR_1, q_wipeR_2, q_asg_1, q_asg_2, q_asg_3, q_asg_4, q_asgR_1, q_ownedArg_1, q_ownedArgs_1, q_ownedArgs_2, q_itemsOf_1, q_itemsOf_2, q_evE_1, q_evE_2, q_evE_3, q_evE_4, q_evE_5, q_evE_6, q_evE_7, q_evE_8, q_evE_9, q_evE_10, q_evE_11, q_evE_12, q_evE_13, q_evE_14, q_evE_15, q_evE_16, q_evE_17, q_evE_18, q_evE_19, q_evE_20, q_evEs_1, q_evEs_2, q_evP_1, q_evP_2, q_evC_1, q_evC_2, q_evI_1, q_evI_2, q_evRet_1, q_evS_1, q_evS_2, q_evS_3, q_evS_4, q_evS_5, q_evS_6, q_evS_7, q_evS_8, q_evS_9, q_evS_10, q_evS_11, q_evS_12, q_evS_13, q_evS_14, q_evS_15, q_evS_16, q_evSs_1, q_evSs_2, q_oa_0, q_rt_0, q_oa_1, q_rt_1, q_oa_2, q_rt_2, q_oa_3, q_rt_3, q_oa_4, q_rt_4, q_oa_5, q_rt_5, q_oa_6, q_rt_6, q_oa_7, q_rt_7, q_oa_8, q_rt_8, q_oa_9, q_rt_9, q_oa_10, q_rt_10, q_oa_11, q_rt_11, q_oa_12, q_rt_12, q_oa_13, q_rt_13, q_oa_14, q_rt_14, q_oa_15, q_rt_15, q_oa_16, q_rt_16, q_oa_17, q_rt_17, q_ar_0, q_ar_1, q_ar_2, asI_N, asI_i, q_l2, q_l3, q_l4, q_l5, q_l6, q_l7, q_l8, q_l9, q_l10, q_l11, q_l12, q_l13, q_ret, q_bind, q_bindn, q_map, q_mapn, q_one, q_zero, q_evT, q_own, evNeg, startR, List.getElem?_cons_succ, List.getElem?_cons_zero, List.set_cons_succ, List.set_cons_zero, List.map_cons, List.map_nil, List.replicate, List.length_cons, List.length_nil, List.append_eq, List.nil_append, List.cons_append, Bool.and_true, Bool.true_and, Bool.and_false, Bool.false_and, Bool.not_true, Bool.not_false, if_true, if_false, reduceCtorEq, Nat.reduceSub, Nat.reduceAdd, Nat.reduceLeDiff, Bool.false_eq_true, Bool.or_false, Bool.false_or, ite_true, ite_false, n_add, lenOk_0, lenOk_1, lenOk_2, lenOk_3, lenOk_4, lenOk_5, lenOk_6, lenOk_7, lenOk_8, List.append_assoc, encTW, encT, encW, List.map_append]
      rfl
    · have e : lrow1 m filled x y w h = none := if_neg hb
      simp only [q_wipeR_1, q_wipeR_2, q_asg_1, q_asg_2, q_asg_3, q_asg_4, q_asgR_1, q_ownedArg_1, q_ownedArgs_1, q_ownedArgs_2, q_itemsOf_1, q_itemsOf_2, q_evE_1, q_evE_2, q_evE_3, q_evE_4, q_evE_5, q_evE_6, q_evE_7, q_evE_8, q_evE_9, q_evE_10, q_evE_11, q_evE_12, q_evE_13, q_evE_14, q_evE_15, q_evE_16, q_evE_17, q_evE_18, q_evE_19, q_evE_20, q_evEs_1, q_evEs_2, q_evP_1, q_evP_2, q_evC_1, q_evC_2, q_evI_1, q_evI_2, q_evRet_1, q_evS_1, q_evS_2, q_evS_3, q_evS_4, q_evS_5, q_evS_6, q_evS_7, q_evS_8, q_evS_9, q_evS_10, q_evS_11, q_evS_12, q_evS_13, q_evS_14, q_evS_15, q_evS_16, q_evSs_1, q_evSs_2, q_oa_0, q_rt_0, q_oa_1, q_rt_1, q_oa_2, q_rt_2, q_oa_3, q_rt_3, q_oa_4, q_rt_4, q_oa_5, q_rt_5, q_oa_6, q_rt_6, q_oa_7, q_rt_7, q_oa_8, q_rt_8, q_oa_9, q_rt_9, q_oa_10, q_rt_10, q_oa_11, q_rt_11, q_oa_12, q_rt_12, q_oa_13, q_rt_13, q_oa_14, q_rt_14, q_oa_15, q_rt_15, q_oa_16, q_rt_16, q_oa_17, q_rt_17, q_ar_0, q_ar_1, q_ar_2, asI_N, asI_i, q_l2, q_l3, q_l4, q_l5, q_l6, q_l7, q_l8, q_l9, q_l10, q_l11, q_l12, q_l13, q_ret, q_bind, q_bindn, q_map, q_mapn, q_one, q_zero, q_evT, q_own, evNeg, startR, List.getElem?_cons_succ, List.getElem?_cons_zero, List.set_cons_succ, List.set_cons_zero, List.map_cons, List.map_nil, List.replicate, List.length_cons, List.length_nil, List.append_eq, List.nil_append, List.cons_append, Bool.and_true, Bool.true_and, Bool.and_false, Bool.false_and, Bool.not_true, Bool.not_false, if_true, if_false, reduceCtorEq, Nat.reduceSub, Nat.reduceAdd, Nat.reduceLeDiff, Bool.false_eq_true, Bool.or_false, Bool.false_or, ite_true, ite_false, n_add, lenOk_0, lenOk_1, lenOk_2, lenOk_3, lenOk_4, lenOk_5, lenOk_6, lenOk_7, lenOk_8, hb, decide_false, List.filterMap_cons_none e, List.filterMap_nil, List.append_nil])
  exact ⟨k11, k12, e⟩
theorem lcol_len {n m filled x y w : Nat} : (lcol n m filled x y w).length ≤ n := by
  have := List.length_filterMap_le (lrow1 m filled x y w) (List.range' 1 (n - y))
  rw [List.length_range'] at this
  unfold lcol
  omega
theorem lflat_len {n m filled x y : Nat} : ∀ l : List Nat, (l.flatMap (lcol n m filled x y)).length ≤ l.length * n
  | [] => by simp
  | h :: l => by
    have := lflat_len (n := n) (m := m) (filled := filled) (x := x) (y := y) l
    have := lcol_len (n := n) (m := m) (filled := filled) (x := x) (y := y) (w := h)
    rw [List.flatMap_cons, List.length_append, List.length_cons, Nat.succ_mul]
    omega
theorem lw_outer {m n filled x y : Nat} {way : List B} {d2 d6 d7 : Option R} {acc : List PyData} {j10 j11 j12 : Option R} (hm : m ≤ 20) (hn : n ≤ 20) (hx : x < m) (hy : y < n) (ha : acc.length ≤ 16400000) (hway : way.length ≤ 1000000) :
    ∃ k10 k11 k12, forGo (.nm 10) (blk FUEL ib__law_ways_3) ((List.range' 1 (m - x)).map N) [sN m, sN n, d2, some (true, .list acc), sN filled, some (false, encW way), d6, d7, sN x, sN y, j10, j11, j12] =
      some (.nx [sN m, sN n, d2, some (true, .list (acc ++ ((List.range' 1 (m - x)).flatMap (lcol n m filled x y)).map (encTW way))), sN filled, some (false, encW way), d6, d7, sN x, sN y, k10, k11, k12]) := by
  obtain ⟨ρ', e, k10, k11, k12, rfl⟩ := forGo_do (g := .nm 10) (f := blk FUEL ib__law_ways_3) N (fun pre ρ => ∃ k10 k11 k12, ρ = [sN m, sN n, d2, some (true, .list (acc ++ (pre.flatMap (lcol n m filled x y)).map (encTW way))), sN filled, some (false, encW way), d6, d7, sN x, sN y, k10, k11, k12]) (l := List.range' 1 (m - x)) (ρ := [sN m, sN n, d2, some (true, .list acc), sN filled, some (false, encW way), d6, d7, sN x, sN y, j10, j11, j12]) ⟨j10, j11, j12, by simp⟩ (by
    rintro pre w suf ρ hs ⟨k10, k11, k12, rfl⟩
    have hc : w ∈ List.range' 1 (m - x) := by rw [hs]; simp
    rw [List.mem_range'_1] at hc
    have hp : pre.length ≤ m - x := by
      have := congrArg List.length hs
      rw [List.length_range', List.length_append] at this
      omega
    have hf := lflat_len (n := n) (m := m) (filled := filled) (x := x) (y := y) pre
    have hq : pre.length * n ≤ 20 * 20 := Nat.mul_le_mul (by omega) (by omega)
    obtain ⟨k11', k12', e⟩ := lw_inner (m := m) (n := n) (filled := filled) (x := x) (y := y) (w := w) (way := way) (d2 := d2) (d6 := d6) (d7 := d7) (acc := acc ++ (pre.flatMap (lcol n m filled x y)).map (encTW way)) (j11 := k11) (j12 := k12) hm hn hy (by omega) (by rw [List.length_append, List.length_map]; omega) hway
    refine ⟨_, _, rfl, ?_, sN w, k11', k12', rfl⟩
    unfold blk ib__law_ways_3
    simp only [q_wipeR_1, q_wipeR_2, q_asg_1, q_asg_2, q_asg_3, q_asg_4, q_asgR_1, q_ownedArg_1, q_ownedArgs_1, q_ownedArgs_2, q_itemsOf_1, q_itemsOf_2, q_evE_1, q_evE_2, q_evE_3, q_evE_4, q_evE_5, q_evE_6, q_evE_7, q_evE_8, q_evE_9, q_evE_10, q_evE_11, q_evE_12, q_evE_13, q_evE_14, q_evE_15, q_evE_16, q_evE_17, q_evE_18, q_evE_19, q_evE_20, q_evEs_1, q_evEs_2, q_evP_1, q_evP_2, q_evC_1, q_evC_2, q_evI_1, q_evI_2, q_evRet_1, q_evS_1, q_evS_2, q_evS_3, q_evS_4, q_evS_5, q_evS_6, q_evS_7, q_evS_8, q_evS_9, q_evS_10, q_evS_11, q_evS_12, q_evS_13, q_evS_14, q_evS_15, q_evS_16, q_evSs_1, q_evSs_2, q_oa_0, q_rt_0, q_oa_1, q_rt_1, q_oa_2, q_rt_2, q_oa_3, q_rt_3, q_oa_4, q_rt_4, q_oa_5, q_rt_5, q_oa_6, q_rt_6, q_oa_7, q_rt_7, q_oa_8, q_rt_8, q_oa_9, q_rt_9, q_oa_10, q_rt_10, q_oa_11, q_rt_11, q_oa_12, q_rt_12, q_oa_13, q_rt_13, q_oa_14, q_rt_14, q_oa_15, q_rt_15, q_oa_16, q_rt_16, q_oa_17, q_rt_17, q_ar_0, q_ar_1, q_ar_2, asI_N, asI_i, q_l2, q_l3, q_l4, q_l5, q_l6, q_l7, q_l8, q_l9, q_l10, q_l11, q_l12, q_l13, q_ret, q_bind, q_bindn, q_map, q_mapn, q_one, q_zero, q_evT, q_own, evNeg, startR, List.getElem?_cons_succ, List.getElem?_cons_zero, List.set_cons_succ, List.set_cons_zero, List.map_cons, List.map_nil, List.replicate, List.length_cons, List.length_nil, List.append_eq, List.nil_append, List.cons_append, Bool.and_true, Bool.true_and, Bool.and_false, Bool.false_and, Bool.not_true, Bool.not_false, if_true, if_false, reduceCtorEq, Nat.reduceSub, Nat.reduceAdd, Nat.reduceLeDiff, Bool.false_eq_true, Bool.or_false, Bool.false_or, ite_true, ite_false, n_add, lenOk_0, lenOk_1, lenOk_2, lenOk_3, lenOk_4, lenOk_5, lenOk_6, lenOk_7, lenOk_8, n_sub (show y ≤ n by omega), n_rng2' (show 1 ≤ 1000 by decide) (show n - y + 1 ≤ 1000 by omega), Nat.add_sub_cancel]
    rw [e]
    simp only [q_wipeR_1, q_wipeR_2, q_asg_1, q_asg_2, q_asg_3, q_asg_4, q_asgR_1, q_ownedArg_1, q_ownedArgs_1, q_ownedArgs_2, q_itemsOf_1, q_itemsOf_2, q_evE_1, q_evE_2, q_evE_3, q_evE_4, q_evE_5, q_evE_6, q_evE_7, q_evE_8, q_evE_9, q_evE_10, q_evE_11, q_evE_12, q_evE_13, q_evE_14, q_evE_15, q_evE_16, q_evE_17, q_evE_18, q_evE_19, q_evE_20, q_evEs_1, q_evEs_2, q_evP_1, q_evP_2, q_evC_1, q_evC_2, q_evI_1, q_evI_2, q_evRet_1, q_evS_1, q_evS_2, q_evS_3, q_evS_4, q_evS_5, q_evS_6, q_evS_7, q_evS_8, q_evS_9, q_evS_10, q_evS_11, q_evS_12, q_evS_13, q_evS_14, q_evS_15, q_evS_16, q_evSs_1, q_evSs_2, q_oa_0, q_rt_0, q_oa_1, q_rt_1, q_oa_2, q_rt_2, q_oa_3, q_rt_3, q_oa_4, q_rt_4, q_oa_5, q_rt_5, q_oa_6, q_rt_6, q_oa_7, q_rt_7, q_oa_8, q_rt_8, q_oa_9, q_rt_9, q_oa_10, q_rt_10, q_oa_11, q_rt_11, q_oa_12, q_rt_12, q_oa_13, q_rt_13, q_oa_14, q_rt_14, q_oa_15, q_rt_15, q_oa_16, q_rt_16, q_oa_17, q_rt_17, q_ar_0, q_ar_1, q_ar_2, asI_N, asI_i, q_l2, q_l3, q_l4, q_l5, q_l6, q_l7, q_l8, q_l9, q_l10, q_l11, q_l12, q_l13, q_ret, q_bind, q_bindn, q_map, q_mapn, q_one, q_zero, q_evT, q_own, evNeg, startR, List.getElem?_cons_succ, List.getElem?_cons_zero, List.set_cons_succ, List.set_cons_zero, List.map_cons, List.map_nil, List.replicate, List.length_cons, List.length_nil, List.append_eq, List.nil_append, List.cons_append, Bool.and_true, Bool.true_and, Bool.and_false, Bool.false_and, Bool.not_true, Bool.not_false, if_true, if_false, reduceCtorEq, Nat.reduceSub, Nat.reduceAdd, Nat.reduceLeDiff, Bool.false_eq_true, Bool.or_false, Bool.false_or, ite_true, ite_false, n_add, lenOk_0, lenOk_1, lenOk_2, lenOk_3, lenOk_4, lenOk_5, lenOk_6, lenOk_7, lenOk_8, List.flatMap_append, List.flatMap_cons, List.flatMap_nil, List.append_nil, List.map_append, List.append_assoc])
  exact ⟨k10, k11, k12, e⟩
theorem nextL_len {m n filled : Nat} {l : List (B × Nat)} (hm : m ≤ 20) (hn : n ≤ 20) (h : nextL m n filled = some l) : l.length ≤ 400 := by
  unfold nextL at h
  obtain ⟨a, e1, e2⟩ := map_some h
  have := lflat_len (n := n) (m := m) (filled := filled) (x := a % m) (y := a / m) (List.range' 1 (m - a % m))
  rw [e2, List.length_range'] at this
  have hq : (m - a % m) * n ≤ 20 * 20 := Nat.mul_le_mul (Nat.le_trans (Nat.sub_le _ _) hm) hn
  omega
theorem lw_empty {m n filled : Nat} {s2 s3 s5 s6 s7 s8 s9 s10 s11 s12 : Option R} (b : Bool) (hm : m ≤ 20) (hn : n ≤ 20) : evE ic__law_ways_1 b [sN m, sN n, s2, s3, sN filled, s5, s6, s7, s8, s9, s10, s11, s12] = some (true, .list (((List.range (m * n)).filter (emp filled)).map N)) := by
  have hmn : m * n ≤ 20 * 20 := Nat.mul_le_mul hm hn
  unfold ic__law_ways_1
  simp only [q_wipeR_1, q_wipeR_2, q_asg_1, q_asg_2, q_asg_3, q_asg_4, q_asgR_1, q_ownedArg_1, q_ownedArgs_1, q_ownedArgs_2, q_itemsOf_1, q_itemsOf_2, q_evE_1, q_evE_2, q_evE_3, q_evE_4, q_evE_5, q_evE_6, q_evE_7, q_evE_8, q_evE_9, q_evE_10, q_evE_11, q_evE_12, q_evE_13, q_evE_14, q_evE_15, q_evE_16, q_evE_17, q_evE_18, q_evE_19, q_evE_20, q_evEs_1, q_evEs_2, q_evP_1, q_evP_2, q_evC_1, q_evC_2, q_evI_1, q_evI_2, q_evRet_1, q_evS_1, q_evS_2, q_evS_3, q_evS_4, q_evS_5, q_evS_6, q_evS_7, q_evS_8, q_evS_9, q_evS_10, q_evS_11, q_evS_12, q_evS_13, q_evS_14, q_evS_15, q_evS_16, q_evSs_1, q_evSs_2, q_oa_0, q_rt_0, q_oa_1, q_rt_1, q_oa_2, q_rt_2, q_oa_3, q_rt_3, q_oa_4, q_rt_4, q_oa_5, q_rt_5, q_oa_6, q_rt_6, q_oa_7, q_rt_7, q_oa_8, q_rt_8, q_oa_9, q_rt_9, q_oa_10, q_rt_10, q_oa_11, q_rt_11, q_oa_12, q_rt_12, q_oa_13, q_rt_13, q_oa_14, q_rt_14, q_oa_15, q_rt_15, q_oa_16, q_rt_16, q_oa_17, q_rt_17, q_ar_0, q_ar_1, q_ar_2, asI_N, asI_i, q_l2, q_l3, q_l4, q_l5, q_l6, q_l7, q_l8, q_l9, q_l10, q_l11, q_l12, q_l13, q_ret, q_bind, q_bindn, q_map, q_mapn, q_one, q_zero, q_evT, q_own, evNeg, startR, List.getElem?_cons_succ, List.getElem?_cons_zero, List.set_cons_succ, List.set_cons_zero, List.map_cons, List.map_nil, List.replicate, List.length_cons, List.length_nil, List.append_eq, List.nil_append, List.cons_append, Bool.and_true, Bool.true_and, Bool.and_false, Bool.false_and, Bool.not_true, Bool.not_false, if_true, if_false, reduceCtorEq, Nat.reduceSub, Nat.reduceAdd, Nat.reduceLeDiff, Bool.false_eq_true, Bool.or_false, Bool.false_or, ite_true, ite_false, n_add, lenOk_0, lenOk_1, lenOk_2, lenOk_3, lenOk_4, lenOk_5, lenOk_6, lenOk_7, lenOk_8, n_mul (show m < 2 ^ 64 by omega) (show n < 2 ^ 64 by omega), n_rng1 (show m * n ≤ 1000000 by omega)]
  rw [compGo_map (en2 := N) (fun a => if emp filled a then some a else none)]
  · simp only [q_wipeR_1, q_wipeR_2, q_asg_1, q_asg_2, q_asg_3, q_asg_4, q_asgR_1, q_ownedArg_1, q_ownedArgs_1, q_ownedArgs_2, q_itemsOf_1, q_itemsOf_2, q_evE_1, q_evE_2, q_evE_3, q_evE_4, q_evE_5, q_evE_6, q_evE_7, q_evE_8, q_evE_9, q_evE_10, q_evE_11, q_evE_12, q_evE_13, q_evE_14, q_evE_15, q_evE_16, q_evE_17, q_evE_18, q_evE_19, q_evE_20, q_evEs_1, q_evEs_2, q_evP_1, q_evP_2, q_evC_1, q_evC_2, q_evI_1, q_evI_2, q_evRet_1, q_evS_1, q_evS_2, q_evS_3, q_evS_4, q_evS_5, q_evS_6, q_evS_7, q_evS_8, q_evS_9, q_evS_10, q_evS_11, q_evS_12, q_evS_13, q_evS_14, q_evS_15, q_evS_16, q_evSs_1, q_evSs_2, q_oa_0, q_rt_0, q_oa_1, q_rt_1, q_oa_2, q_rt_2, q_oa_3, q_rt_3, q_oa_4, q_rt_4, q_oa_5, q_rt_5, q_oa_6, q_rt_6, q_oa_7, q_rt_7, q_oa_8, q_rt_8, q_oa_9, q_rt_9, q_oa_10, q_rt_10, q_oa_11, q_rt_11, q_oa_12, q_rt_12, q_oa_13, q_rt_13, q_oa_14, q_rt_14, q_oa_15, q_rt_15, q_oa_16, q_rt_16, q_oa_17, q_rt_17, q_ar_0, q_ar_1, q_ar_2, asI_N, asI_i, q_l2, q_l3, q_l4, q_l5, q_l6, q_l7, q_l8, q_l9, q_l10, q_l11, q_l12, q_l13, q_ret, q_bind, q_bindn, q_map, q_mapn, q_one, q_zero, q_evT, q_own, evNeg, startR, List.getElem?_cons_succ, List.getElem?_cons_zero, List.set_cons_succ, List.set_cons_zero, List.map_cons, List.map_nil, List.replicate, List.length_cons, List.length_nil, List.append_eq, List.nil_append, List.cons_append, Bool.and_true, Bool.true_and, Bool.and_false, Bool.false_and, Bool.not_true, Bool.not_false, if_true, if_false, reduceCtorEq, Nat.reduceSub, Nat.reduceAdd, Nat.reduceLeDiff, Bool.false_eq_true, Bool.or_false, Bool.false_or, ite_true, ite_false, n_add, lenOk_0, lenOk_1, lenOk_2, lenOk_3, lenOk_4, lenOk_5, lenOk_6, lenOk_7, lenOk_8]
    congr 5
    induction List.range (m * n) with
    | nil => rfl
    | cons x l ih =>
      rw [List.filter_cons]
      cases h : emp filled x with
      | true => rw [List.filterMap_cons_some (by rw [h]; rfl), ih]; rfl
      | false => rw [List.filterMap_cons_none (by rw [h]; rfl), ih]; rfl
  · intro a _
    simp only [q_wipeR_1, q_wipeR_2, q_asg_1, q_asg_2, q_asg_3, q_asg_4, q_asgR_1, q_ownedArg_1, q_ownedArgs_1, q_ownedArgs_2, q_itemsOf_1, q_itemsOf_2, q_evE_1, q_evE_2, q_evE_3, q_evE_4, q_evE_5, q_evE_6, q_evE_7, q_evE_8, q_evE_9, q_evE_10, q_evE_11, q_evE_12, q_evE_13, q_evE_14, q_evE_15, q_evE_16, q_evE_17, q_evE_18, q_evE_19, q_evE_20, q_evEs_1, q_evEs_2, q_evP_1, q_evP_2, q_evC_1, q_evC_2, q_evI_1, q_evI_2, q_evRet_1, q_evS_1, q_evS_2, q_evS_3, q_evS_4, q_evS_5, q_evS_6, q_evS_7, q_evS_8, q_evS_9, q_evS_10, q_evS_11, q_evS_12, q_evS_13, q_evS_14, q_evS_15, q_evS_16, q_evSs_1, q_evSs_2, q_oa_0, q_rt_0, q_oa_1, q_rt_1, q_oa_2, q_rt_2, q_oa_3, q_rt_3, q_oa_4, q_rt_4, q_oa_5, q_rt_5, q_oa_6, q_rt_6, q_oa_7, q_rt_7, q_oa_8, q_rt_8, q_oa_9, q_rt_9, q_oa_10, q_rt_10, q_oa_11, q_rt_11, q_oa_12, q_rt_12, q_oa_13, q_rt_13, q_oa_14, q_rt_14, q_oa_15, q_rt_15, q_oa_16, q_rt_16, q_oa_17, q_rt_17, q_ar_0, q_ar_1, q_ar_2, asI_N, asI_i, q_l2, q_l3, q_l4, q_l5, q_l6, q_l7, q_l8, q_l9, q_l10, q_l11, q_l12, q_l13, q_ret, q_bind, q_bindn, q_map, q_mapn, q_one, q_zero, q_evT, q_own, evNeg, startR, List.getElem?_cons_succ, List.getElem?_cons_zero, List.set_cons_succ, List.set_cons_zero, List.map_cons, List.map_nil, List.replicate, List.length_cons, List.length_nil, List.append_eq, List.nil_append, List.cons_append, Bool.and_true, Bool.true_and, Bool.and_false, Bool.false_and, Bool.not_true, Bool.not_false, if_true, if_false, reduceCtorEq, Nat.reduceSub, Nat.reduceAdd, Nat.reduceLeDiff, Bool.false_eq_true, Bool.or_false, Bool.false_or, ite_true, ite_false, n_add, lenOk_0, lenOk_1, lenOk_2, lenOk_3, lenOk_4, lenOk_5, lenOk_6, lenOk_7, lenOk_8, n_shr, n_band, n_eq, emp_of]
    cases emp filled a <;> simp only [q_wipeR_1, q_wipeR_2, q_asg_1, q_asg_2, q_asg_3, q_asg_4, q_asgR_1, q_ownedArg_1, q_ownedArgs_1, q_ownedArgs_2, q_itemsOf_1, q_itemsOf_2, q_evE_1, q_evE_2, q_evE_3, q_evE_4, q_evE_5, q_evE_6, q_evE_7, q_evE_8, q_evE_9, q_evE_10, q_evE_11, q_evE_12, q_evE_13, q_evE_14, q_evE_15, q_evE_16, q_evE_17, q_evE_18, q_evE_19, q_evE_20, q_evEs_1, q_evEs_2, q_evP_1, q_evP_2, q_evC_1, q_evC_2, q_evI_1, q_evI_2, q_evRet_1, q_evS_1, q_evS_2, q_evS_3, q_evS_4, q_evS_5, q_evS_6, q_evS_7, q_evS_8, q_evS_9, q_evS_10, q_evS_11, q_evS_12, q_evS_13, q_evS_14, q_evS_15, q_evS_16, q_evSs_1, q_evSs_2, q_oa_0, q_rt_0, q_oa_1, q_rt_1, q_oa_2, q_rt_2, q_oa_3, q_rt_3, q_oa_4, q_rt_4, q_oa_5, q_rt_5, q_oa_6, q_rt_6, q_oa_7, q_rt_7, q_oa_8, q_rt_8, q_oa_9, q_rt_9, q_oa_10, q_rt_10, q_oa_11, q_rt_11, q_oa_12, q_rt_12, q_oa_13, q_rt_13, q_oa_14, q_rt_14, q_oa_15, q_rt_15, q_oa_16, q_rt_16, q_oa_17, q_rt_17, q_ar_0, q_ar_1, q_ar_2, asI_N, asI_i, q_l2, q_l3, q_l4, q_l5, q_l6, q_l7, q_l8, q_l9, q_l10, q_l11, q_l12, q_l13, q_ret, q_bind, q_bindn, q_map, q_mapn, q_one, q_zero, q_evT, q_own, evNeg, startR, List.getElem?_cons_succ, List.getElem?_cons_zero, List.set_cons_succ, List.set_cons_zero, List.map_cons, List.map_nil, List.replicate, List.length_cons, List.length_nil, List.append_eq, List.nil_append, List.cons_append, Bool.and_true, Bool.true_and, Bool.and_false, Bool.false_and, Bool.not_true, Bool.not_false, if_true, if_false, reduceCtorEq, Nat.reduceSub, Nat.reduceAdd, Nat.reduceLeDiff, Bool.false_eq_true, Bool.or_false, Bool.false_or, ite_true, ite_false, n_add, lenOk_0, lenOk_1, lenOk_2, lenOk_3, lenOk_4, lenOk_5, lenOk_6, lenOk_7, lenOk_8]
theorem lw_step {m n filled : Nat} {way : List B} {st : List (List B × Nat)} {found : List (List B)} {j4 j5 j6 j7 j8 j9 j10 j11 j12 : Option R} (hm0 : 0 < m) (hm : m ≤ 20) (hn : n ≤ 20) (hf : found.length ≤ 1000000) (hs : st.length ≤ 16000000) (hw : way.length ≤ 1000000) :
    ((fe (m * n) filled = none → ∃ k4 k5 k6 k7 k8 k9 k10 k11 k12, blk FUEL ib__law_ways_4 [sN m, sN n, some (true, .list ((found.reverse).map encW)), some (true, .list ((((way, filled) :: st).reverse).map encT)), j4, j5, j6, j7, j8, j9, j10, j11, j12] =
      some (.nx [sN m, sN n, some (true, .list (((way :: found).reverse).map encW)), some (true, .list (st.reverse.map encT)), k4, k5, k6, k7, k8, k9, k10, k11, k12])) ∧
    ∀ l, nextL m n filled = some l → ∃ k4 k5 k6 k7 k8 k9 k10 k11 k12, blk FUEL ib__law_ways_4 [sN m, sN n, some (true, .list ((found.reverse).map encW)), some (true, .list ((((way, filled) :: st).reverse).map encT)), j4, j5, j6, j7, j8, j9, j10, j11, j12] =
      some (.nx [sN m, sN n, some (true, .list ((found.reverse).map encW)), some (true, .list (((l.map fun p => (way ++ [p.1], p.2)).reverse ++ st).reverse.map encT)), k4, k5, k6, k7, k8, k9, k10, k11, k12])) := by
  have e1 : (((way, filled) :: st).reverse).map encT = st.reverse.map encT ++ [.tuple [N filled, encW way]] := by
    rw [List.reverse_cons, List.map_append]; rfl
  have hdk : dok (.list (((List.range (m * n)).filter (emp filled)).map N)) = true := (dk_list (k := 1) (dk_map fun x => dk_N x)).dok (by decide)
  have hmn : m * n ≤ 20 * 20 := Nat.mul_le_mul hm hn
  rw [e1]
  unfold blk ib__law_ways_4
  refine ⟨fun h => ?_, fun l h => ?_⟩
  · have he : (List.range (m * n)).filter (emp filled) = [] := by
      rw [List.filter_eq_nil_iff]
      intro a ha
      unfold fe at h
      rw [List.find?_eq_none] at h
      exact h a ha
    refine ⟨sN filled, some (false, encW way), some (false, .list []), j7, j8, j9, j10, j11, j12, ?_⟩
    rw [he] at hdk
    have hnil : evCmp .eq (.list []) (.list []) = some true := n_eqNil hdk
    simp only [q_wipeR_1, q_wipeR_2, q_asg_1, q_asg_2, q_asg_3, q_asg_4, q_asgR_1, q_ownedArg_1, q_ownedArgs_1, q_ownedArgs_2, q_itemsOf_1, q_itemsOf_2, q_evE_1, q_evE_2, q_evE_3, q_evE_4, q_evE_5, q_evE_6, q_evE_7, q_evE_8, q_evE_9, q_evE_10, q_evE_11, q_evE_12, q_evE_13, q_evE_14, q_evE_15, q_evE_16, q_evE_17, q_evE_18, q_evE_19, q_evE_20, q_evEs_1, q_evEs_2, q_evP_1, q_evP_2, q_evC_1, q_evC_2, q_evI_1, q_evI_2, q_evRet_1, q_evS_1, q_evS_2, q_evS_3, q_evS_4, q_evS_5, q_evS_6, q_evS_7, q_evS_8, q_evS_9, q_evS_10, q_evS_11, q_evS_12, q_evS_13, q_evS_14, q_evS_15, q_evS_16, q_evSs_1, q_evSs_2, q_oa_0, q_rt_0, q_oa_1, q_rt_1, q_oa_2, q_rt_2, q_oa_3, q_rt_3, q_oa_4, q_rt_4, q_oa_5, q_rt_5, q_oa_6, q_rt_6, q_oa_7, q_rt_7, q_oa_8, q_rt_8, q_oa_9, q_rt_9, q_oa_10, q_rt_10, q_oa_11, q_rt_11, q_oa_12, q_rt_12, q_oa_13, q_rt_13, q_oa_14, q_rt_14, q_oa_15, q_rt_15, q_oa_16, q_rt_16, q_oa_17, q_rt_17, q_ar_0, q_ar_1, q_ar_2, asI_N, asI_i, q_l2, q_l3, q_l4, q_l5, q_l6, q_l7, q_l8, q_l9, q_l10, q_l11, q_l12, q_l13, q_ret, q_bind, q_bindn, q_map, q_mapn, q_one, q_zero, q_evT, q_own, evNeg, startR, List.getElem?_cons_succ, List.getElem?_cons_zero, List.set_cons_succ, List.set_cons_zero, List.map_cons, List.map_nil, List.replicate, List.length_cons, List.length_nil, List.append_eq, List.nil_append, List.cons_append, Bool.and_true, Bool.true_and, Bool.and_false, Bool.false_and, Bool.not_true, Bool.not_false, if_true, if_false, reduceCtorEq, Nat.reduceSub, Nat.reduceAdd, Nat.reduceLeDiff, Bool.false_eq_true, Bool.or_false, Bool.false_or, ite_true, ite_false, n_add, lenOk_0, lenOk_1, lenOk_2, lenOk_3, lenOk_4, lenOk_5, lenOk_6, lenOk_7, lenOk_8, List.getLast?_concat, List.dropLast_concat, lw_empty _ hm hn, he, hnil]
    rw [if_pos (lenOk_of (by rw [List.length_map, List.length_reverse]; omega))]
    simp only [q_wipeR_1, q_wipeR_2, q_asg_1, q_asg_2, q_asg_3, q_asg_4, q_asgR_1, q_ownedArg_1, q_ownedArgs_1, q_ownedArgs_2, q_itemsOf_1, q_itemsOf_2, q_evE_1, q_evE_2, q_evE_3, q_evE_4, q_evE_5, q_evE_6, q_evE_7, q_evE_8, q_evE_9, q_evE_10, q_evE_11, q_evE_12, q_evE_13, q_evE_14, q_evE_15, q_evE_16, q_evE_17, q_evE_18, q_evE_19, q_evE_20, q_evEs_1, q_evEs_2, q_evP_1, q_evP_2, q_evC_1, q_evC_2, q_evI_1, q_evI_2, q_evRet_1, q_evS_1, q_evS_2, q_evS_3, q_evS_4, q_evS_5, q_evS_6, q_evS_7, q_evS_8, q_evS_9, q_evS_10, q_evS_11, q_evS_12, q_evS_13, q_evS_14, q_evS_15, q_evS_16, q_evSs_1, q_evSs_2, q_oa_0, q_rt_0, q_oa_1, q_rt_1, q_oa_2, q_rt_2, q_oa_3, q_rt_3, q_oa_4, q_rt_4, q_oa_5, q_rt_5, q_oa_6, q_rt_6, q_oa_7, q_rt_7, q_oa_8, q_rt_8, q_oa_9, q_rt_9, q_oa_10, q_rt_10, q_oa_11, q_rt_11, q_oa_12, q_rt_12, q_oa_13, q_rt_13, q_oa_14, q_rt_14, q_oa_15, q_rt_15, q_oa_16, q_rt_16, q_oa_17, q_rt_17, q_ar_0, q_ar_1, q_ar_2, asI_N, asI_i, q_l2, q_l3, q_l4, q_l5, q_l6, q_l7, q_l8, q_l9, q_l10, q_l11, q_l12, q_l13, q_ret, q_bind, q_bindn, q_map, q_mapn, q_one, q_zero, q_evT, q_own, evNeg, startR, List.getElem?_cons_succ, List.getElem?_cons_zero, List.set_cons_succ, List.set_cons_zero, List.map_cons, List.map_nil, List.replicate, List.length_cons, List.length_nil, List.append_eq, List.nil_append, List.cons_append, Bool.and_true, Bool.true_and, Bool.and_false, Bool.false_and, Bool.not_true, Bool.not_false, if_true, if_false, reduceCtorEq, Nat.reduceSub, Nat.reduceAdd, Nat.reduceLeDiff, Bool.false_eq_true, Bool.or_false, Bool.false_or, ite_true, ite_false, n_add, lenOk_0, lenOk_1, lenOk_2, lenOk_3, lenOk_4, lenOk_5, lenOk_6, lenOk_7, lenOk_8, List.reverse_cons, List.map_append]
  · unfold nextL at h
    obtain ⟨a, h1, h2⟩ := map_some h
    have ha := fe_lt h1
    have hx : a % m < m := Nat.mod_lt _ hm0
    have hy : a / m < n := Nat.div_lt_of_lt_mul ha
    have hh : ((List.range (m * n)).filter (emp filled))[0]? = some a := by
      rw [← List.head?_eq_getElem?, List.head?_filter]
      exact h1
    have hh2 : (((List.range (m * n)).filter (emp filled)).map N)[0]? = some (N a) := by rw [List.getElem?_map, hh]; rfl
    have hne : (((List.range (m * n)).filter (emp filled)).map N).isEmpty = false := by
      cases hc : ((List.range (m * n)).filter (emp filled)).map N with
      | nil => rw [hc] at hh2; cases hh2
      | cons _ _ => rfl
    have hnil : evCmp .eq (.list (((List.range (m * n)).filter (emp filled)).map N)) (.list []) = some false := (n_eqNil hdk).trans (by rw [hne])
    obtain ⟨k10, k11, k12, e⟩ := lw_outer (m := m) (n := n) (filled := filled) (x := a % m) (y := a / m) (way := way) (d2 := some (true, .list (found.reverse.map encW))) (d6 := some (false, .list (((List.range (m * n)).filter (emp filled)).map N))) (d7 := j7) (acc := st.reverse.map encT) (j10 := j10) (j11 := j11) (j12 := j12) hm hn hx hy (by rw [List.length_map, List.length_reverse]; omega) hw
    rw [h2] at e
    refine ⟨sN filled, some (false, encW way), some (false, .list (((List.range (m * n)).filter (emp filled)).map N)), j7, sN (a % m), sN (a / m), k10, k11, k12, ?_⟩
    simp only [q_wipeR_1, q_wipeR_2, q_asg_1, q_asg_2, q_asg_3, q_asg_4, q_asgR_1, q_ownedArg_1, q_ownedArgs_1, q_ownedArgs_2, q_itemsOf_1, q_itemsOf_2, q_evE_1, q_evE_2, q_evE_3, q_evE_4, q_evE_5, q_evE_6, q_evE_7, q_evE_8, q_evE_9, q_evE_10, q_evE_11, q_evE_12, q_evE_13, q_evE_14, q_evE_15, q_evE_16, q_evE_17, q_evE_18, q_evE_19, q_evE_20, q_evEs_1, q_evEs_2, q_evP_1, q_evP_2, q_evC_1, q_evC_2, q_evI_1, q_evI_2, q_evRet_1, q_evS_1, q_evS_2, q_evS_3, q_evS_4, q_evS_5, q_evS_6, q_evS_7, q_evS_8, q_evS_9, q_evS_10, q_evS_11, q_evS_12, q_evS_13, q_evS_14, q_evS_15, q_evS_16, q_evSs_1, q_evSs_2, q_oa_0, q_rt_0, q_oa_1, q_rt_1, q_oa_2, q_rt_2, q_oa_3, q_rt_3, q_oa_4, q_rt_4, q_oa_5, q_rt_5, q_oa_6, q_rt_6, q_oa_7, q_rt_7, q_oa_8, q_rt_8, q_oa_9, q_rt_9, q_oa_10, q_rt_10, q_oa_11, q_rt_11, q_oa_12, q_rt_12, q_oa_13, q_rt_13, q_oa_14, q_rt_14, q_oa_15, q_rt_15, q_oa_16, q_rt_16, q_oa_17, q_rt_17, q_ar_0, q_ar_1, q_ar_2, asI_N, asI_i, q_l2, q_l3, q_l4, q_l5, q_l6, q_l7, q_l8, q_l9, q_l10, q_l11, q_l12, q_l13, q_ret, q_bind, q_bindn, q_map, q_mapn, q_one, q_zero, q_evT, q_own, evNeg, startR, List.getElem?_cons_succ, List.getElem?_cons_zero, List.set_cons_succ, List.set_cons_zero, List.map_cons, List.map_nil, List.replicate, List.length_cons, List.length_nil, List.append_eq, List.nil_append, List.cons_append, Bool.and_true, Bool.true_and, Bool.and_false, Bool.false_and, Bool.not_true, Bool.not_false, if_true, if_false, reduceCtorEq, Nat.reduceSub, Nat.reduceAdd, Nat.reduceLeDiff, Bool.false_eq_true, Bool.or_false, Bool.false_or, ite_true, ite_false, n_add, lenOk_0, lenOk_1, lenOk_2, lenOk_3, lenOk_4, lenOk_5, lenOk_6, lenOk_7, lenOk_8, List.getLast?_concat, List.dropLast_concat, lw_empty _ hm hn, hnil, n_ixl, hh2, n_mod hm0, n_div hm0 (show m < 2 ^ 64 by omega), n_sub (Nat.le_of_lt hx), n_rng2' (show 1 ≤ 1000 by decide) (show m - a % m + 1 ≤ 1000 from Nat.le_trans (Nat.add_le_add_right (Nat.sub_le _ _) 1) (by omega)), Nat.add_sub_cancel]
    rw [e]
    simp only [q_wipeR_1, q_wipeR_2, q_asg_1, q_asg_2, q_asg_3, q_asg_4, q_asgR_1, q_ownedArg_1, q_ownedArgs_1, q_ownedArgs_2, q_itemsOf_1, q_itemsOf_2, q_evE_1, q_evE_2, q_evE_3, q_evE_4, q_evE_5, q_evE_6, q_evE_7, q_evE_8, q_evE_9, q_evE_10, q_evE_11, q_evE_12, q_evE_13, q_evE_14, q_evE_15, q_evE_16, q_evE_17, q_evE_18, q_evE_19, q_evE_20, q_evEs_1, q_evEs_2, q_evP_1, q_evP_2, q_evC_1, q_evC_2, q_evI_1, q_evI_2, q_evRet_1, q_evS_1, q_evS_2, q_evS_3, q_evS_4, q_evS_5, q_evS_6, q_evS_7, q_evS_8, q_evS_9, q_evS_10, q_evS_11, q_evS_12, q_evS_13, q_evS_14, q_evS_15, q_evS_16, q_evSs_1, q_evSs_2, q_oa_0, q_rt_0, q_oa_1, q_rt_1, q_oa_2, q_rt_2, q_oa_3, q_rt_3, q_oa_4, q_rt_4, q_oa_5, q_rt_5, q_oa_6, q_rt_6, q_oa_7, q_rt_7, q_oa_8, q_rt_8, q_oa_9, q_rt_9, q_oa_10, q_rt_10, q_oa_11, q_rt_11, q_oa_12, q_rt_12, q_oa_13, q_rt_13, q_oa_14, q_rt_14, q_oa_15, q_rt_15, q_oa_16, q_rt_16, q_oa_17, q_rt_17, q_ar_0, q_ar_1, q_ar_2, asI_N, asI_i, q_l2, q_l3, q_l4, q_l5, q_l6, q_l7, q_l8, q_l9, q_l10, q_l11, q_l12, q_l13, q_ret, q_bind, q_bindn, q_map, q_mapn, q_one, q_zero, q_evT, q_own, evNeg, startR, List.getElem?_cons_succ, List.getElem?_cons_zero, List.set_cons_succ, List.set_cons_zero, List.map_cons, List.map_nil, List.replicate, List.length_cons, List.length_nil, List.append_eq, List.nil_append, List.cons_append, Bool.and_true, Bool.true_and, Bool.and_false, Bool.false_and, Bool.not_true, Bool.not_false, if_true, if_false, reduceCtorEq, Nat.reduceSub, Nat.reduceAdd, Nat.reduceLeDiff, Bool.false_eq_true, Bool.or_false, Bool.false_or, ite_true, ite_false, n_add, lenOk_0, lenOk_1, lenOk_2, lenOk_3, lenOk_4, lenOk_5, lenOk_6, lenOk_7, lenOk_8, List.reverse_append, List.reverse_reverse, List.map_append, List.map_map]
    rfl
def ltB (a b : B) : Bool := Nat.blt a.1 b.1 || (a.1 == b.1 && Nat.blt a.2.1 b.2.1)
def lx (l r : List (Int ⊕ List Nat)) : Bool := PyProof.Rows.lexLt PyProof.Rows.itemOrd l r
theorem lex_inl (i j : Int) (r t : List (Int ⊕ List Nat)) : lx (.inl i :: r) (.inl j :: t) = (decide (i < j) || (!decide (j < i) && lx r t)) := rfl
theorem le_of_ltB {a b : B} (h : ltB a b = true) : W.dataLe false (fun d => d) (encB a) (encB b) = true := by
  show (!lx (W.keyToks (encB b)) (W.keyToks (encB a))) = true
  unfold ltB at h
  rw [Bool.or_eq_true, Bool.and_eq_true, Nat.blt_eq, Nat.blt_eq, beq_iff_eq] at h
  have e : ∀ c : B, W.keyToks (encB c) = [.inl 1, .inl (c.1 : Int), .inl 1, .inl (c.2.1 : Int), .inl 1, .inl (c.2.2.1 : Int), .inl 1, .inl (c.2.2.2 : Int), .inl 0] := fun c => by
    simp only [encB, N, W.keyToks, W.keyToksAll, List.cons_append, List.nil_append]
  rw [e, e]
  rcases h with h | ⟨h1, h2⟩
  · have h3 : ¬ ((b.1 : Int) < (a.1 : Int)) := by omega
    have h4 : (a.1 : Int) < (b.1 : Int) := by omega
    simp [lex_inl, h3, h4]
  · have h3 : ¬ ((b.2.1 : Int) < (a.2.1 : Int)) := by omega
    have h4 : (a.2.1 : Int) < (b.2.1 : Int) := by omega
    simp [lex_inl, h1, h3, h4]
def ordB : List B → Bool
  | [] => true
  | b :: l => l.all (ltB b) && ordB l
theorem ordB_pw : ∀ {l : List B}, ordB l = true → (l.map encB).Pairwise (fun a b => W.dataLe false (fun d => d) a b = true)
  | [], _ => .nil
  | b :: l, h => by
    rw [ordB, Bool.and_eq_true] at h
    rw [List.map_cons, List.pairwise_cons]
    refine ⟨fun d hd => ?_, ordB_pw h.2⟩
    obtain ⟨c, hc, rfl⟩ := List.mem_map.mp hd
    exact le_of_ltB (List.all_eq_true.mp h.1 c hc)
theorem sdok_B (l : List B) : sdok (l.map encB) = true := by
  unfold sdok
  have h1 : ((l.map encB).all fun d => (l.map encB).all fun d' => W.alike d d') = true := by
    rw [List.all_eq_true]
    intro d hd
    rw [List.all_eq_true]
    intro d' hd'
    obtain ⟨b, _, rfl⟩ := List.mem_map.mp hd
    obtain ⟨c, _, rfl⟩ := List.mem_map.mp hd'
    simp [encB, N, W.alike, W.alikeAll]
  have h2 : (l.map encB).all tupOk = true := by
    rw [List.all_eq_true]
    intro d hd
    obtain ⟨b, _, rfl⟩ := List.mem_map.mp hd
    rfl
  have h3 := (dk_all (k := 1) (dk_map (l := l) (enc := encB) fun b => dk_tuple (k := 0) fun d hd => by
    simp only [encB, List.mem_cons, List.not_mem_nil, or_false] at hd
    rcases hd with rfl | rfl | rfl | rfl <;> exact dk_N _)).1
  rw [h1, h2, Bool.true_or, Bool.true_and, Bool.true_and]
  exact Nat.ble_eq_true_of_le (Nat.le_trans h3 (by decide))
theorem alike_W : ∀ (l r : List B), W.alikeAll (l.map encB) (r.map encB) = true
  | [], r => by cases r <;> rfl
  | b :: l, [] => rfl
  | b :: l, c :: r => by
    have := alike_W l r
    simp only [List.map_cons, W.alikeAll, this, Bool.and_true]
    simp [encB, N, W.alike, W.alikeAll]
theorem dk_B (b : B) : DK 1 (encB b) := dk_tuple (k := 0) fun d hd => by
  simp only [List.mem_cons, List.not_mem_nil, or_false] at hd
  rcases hd with rfl | rfl | rfl | rfl <;> exact dk_N _
theorem dk_W (w : List B) : DK 2 (encW w) := dk_list (dk_map dk_B)
theorem sdok_W (l : List (List B)) : sdok (l.map encW) = true := by
  unfold sdok
  have h1 : ((l.map encW).all fun d => (l.map encW).all fun d' => W.alike d d') = true := by
    rw [List.all_eq_true]
    intro d hd
    rw [List.all_eq_true]
    intro d' hd'
    obtain ⟨b, _, rfl⟩ := List.mem_map.mp hd
    obtain ⟨c, _, rfl⟩ := List.mem_map.mp hd'
    exact alike_W b c
  have h2 : (l.map encW).all rowOk = true := by
    rw [List.all_eq_true]
    intro d hd
    obtain ⟨b, _, rfl⟩ := List.mem_map.mp hd
    rfl
  have h3 := (dk_all (k := 2) (dk_map (l := l) dk_W)).1
  rw [h1, h2, Bool.or_true, Bool.true_and, Bool.true_and]
  exact Nat.ble_eq_true_of_le (Nat.le_trans h3 (by decide))
theorem sorted_B {l : List B} (h : ordB l = true) : evBI .sorted [encW l] = some (true, encW l) := by
  unfold encW
  cases l with
  | nil => exact n_sortedNil
  | cons b l =>
    have hi : intsOf ((b :: l).map encB) = none := rfl
    rw [n_sorted hi (sdok_B _), List.mergeSort_of_pairwise (ordB_pw h)]

theorem dk_T (p : List B × Nat) : DK 3 (encT p) := dk_tuple (dk_two (dk_N _) (dk_W _))
theorem lw_test {s0 s1 s2 s4 s5 s6 s7 s8 s9 s10 s11 s12 : Option R} {st : List (List B × Nat)} : tst iw__law_ways_4 [s0, s1, s2, some (true, .list (st.map encT)), s4, s5, s6, s7, s8, s9, s10, s11, s12] = some (!st.isEmpty) := by
  have h := n_neNil (ds := st.map encT) ((dk_list (k := 3) (dk_map dk_T)).dok (by decide))
  unfold tst iw__law_ways_4
  simp only [q_wipeR_1, q_wipeR_2, q_asg_1, q_asg_2, q_asg_3, q_asg_4, q_asgR_1, q_ownedArg_1, q_ownedArgs_1, q_ownedArgs_2, q_itemsOf_1, q_itemsOf_2, q_evE_1, q_evE_2, q_evE_3, q_evE_4, q_evE_5, q_evE_6, q_evE_7, q_evE_8, q_evE_9, q_evE_10, q_evE_11, q_evE_12, q_evE_13, q_evE_14, q_evE_15, q_evE_16, q_evE_17, q_evE_18, q_evE_19, q_evE_20, q_evEs_1, q_evEs_2, q_evP_1, q_evP_2, q_evC_1, q_evC_2, q_evI_1, q_evI_2, q_evRet_1, q_evS_1, q_evS_2, q_evS_3, q_evS_4, q_evS_5, q_evS_6, q_evS_7, q_evS_8, q_evS_9, q_evS_10, q_evS_11, q_evS_12, q_evS_13, q_evS_14, q_evS_15, q_evS_16, q_evSs_1, q_evSs_2, q_oa_0, q_rt_0, q_oa_1, q_rt_1, q_oa_2, q_rt_2, q_oa_3, q_rt_3, q_oa_4, q_rt_4, q_oa_5, q_rt_5, q_oa_6, q_rt_6, q_oa_7, q_rt_7, q_oa_8, q_rt_8, q_oa_9, q_rt_9, q_oa_10, q_rt_10, q_oa_11, q_rt_11, q_oa_12, q_rt_12, q_oa_13, q_rt_13, q_oa_14, q_rt_14, q_oa_15, q_rt_15, q_oa_16, q_rt_16, q_oa_17, q_rt_17, q_ar_0, q_ar_1, q_ar_2, asI_N, asI_i, q_l2, q_l3, q_l4, q_l5, q_l6, q_l7, q_l8, q_l9, q_l10, q_l11, q_l12, q_l13, q_ret, q_bind, q_bindn, q_map, q_mapn, q_one, q_zero, q_evT, q_own, evNeg, startR, List.getElem?_cons_succ, List.getElem?_cons_zero, List.set_cons_succ, List.set_cons_zero, List.map_cons, List.map_nil, List.replicate, List.length_cons, List.length_nil, List.append_eq, List.nil_append, List.cons_append, Bool.and_true, Bool.true_and, Bool.and_false, Bool.false_and, Bool.not_true, Bool.not_false, if_true, if_false, reduceCtorEq, Nat.reduceSub, Nat.reduceAdd, Nat.reduceLeDiff, Bool.false_eq_true, Bool.or_false, Bool.false_or, ite_true, ite_false, n_add, lenOk_0, lenOk_1, lenOk_2, lenOk_3, lenOk_4, lenOk_5, lenOk_6, lenOk_7, lenOk_8, h]
  cases st <;> rfl
def lwGo (m n : Nat) : Nat → List (List B × Nat) → List (List B) → Option (List (List B))
  | 0, _, _ => none
  | _ + 1, [], found => some found
  | k + 1, (way, filled) :: st, found => match nextL m n filled with
    | none => lwGo m n k st (way :: found)
    | some l => lwGo m n k ((l.map fun p => (way ++ [p.1], p.2)).reverse ++ st) found
theorem nextL_none {m n filled : Nat} (h : nextL m n filled = none) : fe (m * n) filled = none := by
  unfold nextL at h
  cases e : fe (m * n) filled with
  | none => rfl
  | some a => rw [e] at h; cases h
theorem lw_loop {m n : Nat} (hm0 : 0 < m) (hm : m ≤ 20) (hn : n ≤ 20) : ∀ (k : Nat) (st : List (List B × Nat)) (found r : List (List B)) (fuel : Nat) (j4 j5 j6 j7 j8 j9 j10 j11 j12 : Option R), lwGo m n k st found = some r → k ≤ fuel → found.length + k ≤ 1000000 → st.length + 500 * k ≤ 16000000 → (∀ p ∈ st, p.1.length + k ≤ 1000000) →
    ∃ d k4 k5 k6 k7 k8 k9 k10 k11 k12, whileGo (tst iw__law_ways_4) (blk FUEL ib__law_ways_4) fuel [sN m, sN n, some (true, .list (found.reverse.map encW)), some (true, .list (st.reverse.map encT)), j4, j5, j6, j7, j8, j9, j10, j11, j12] = some (.nx [sN m, sN n, some (true, .list (r.reverse.map encW)), d, k4, k5, k6, k7, k8, k9, k10, k11, k12])
  | 0, st, found, r, fuel, j4, j5, j6, j7, j8, j9, j10, j11, j12, h, _, _, _, _ => by cases h
  | k + 1, [], found, r, fuel, j4, j5, j6, j7, j8, j9, j10, j11, j12, h, hk, _, _, _ => by
    obtain ⟨f, rfl⟩ : ∃ f, fuel = f + 1 := ⟨fuel - 1, by omega⟩
    cases h
    exact ⟨some (true, .list []), j4, j5, j6, j7, j8, j9, j10, j11, j12, wh_false (lw_test (st := []))⟩
  | k + 1, (way, filled) :: st, found, r, fuel, j4, j5, j6, j7, j8, j9, j10, j11, j12, h, hk, hf, hs, hw => by
    obtain ⟨f, rfl⟩ : ∃ f, fuel = f + 1 := ⟨fuel - 1, by omega⟩
    rw [List.length_cons] at hs
    have hw0 : way.length + (k + 1) ≤ 1000000 := hw _ List.mem_cons_self
    have e0 : (!((way, filled) :: st).reverse.isEmpty) = true := by rw [List.reverse_cons]; simp
    obtain ⟨s1, s2⟩ := lw_step (m := m) (n := n) (filled := filled) (way := way) (st := st) (found := found) (j4 := j4) (j5 := j5) (j6 := j6) (j7 := j7) (j8 := j8) (j9 := j9) (j10 := j10) (j11 := j11) (j12 := j12) hm0 hm hn (by omega) (by omega) (by omega)
    rw [lwGo] at h
    cases hx : nextL m n filled with
    | none =>
      rw [hx] at h
      obtain ⟨a4, a5, a6, a7, a8, a9, a10, a11, a12, e⟩ := s1 (nextL_none hx)
      obtain ⟨d, k4, k5, k6, k7, k8, k9, k10, k11, k12, ih⟩ := lw_loop hm0 hm hn k st (way :: found) r f a4 a5 a6 a7 a8 a9 a10 a11 a12 h (by omega) (by rw [List.length_cons]; omega) (by omega) fun p hp => by have := hw p (List.mem_cons_of_mem _ hp); omega
      exact ⟨d, k4, k5, k6, k7, k8, k9, k10, k11, k12, (wh_true (lw_test.trans (congrArg some e0)) e).trans ih⟩
    | some l =>
      rw [hx] at h
      have hl := nextL_len hm hn hx
      obtain ⟨a4, a5, a6, a7, a8, a9, a10, a11, a12, e⟩ := s2 l hx
      obtain ⟨d, k4, k5, k6, k7, k8, k9, k10, k11, k12, ih⟩ := lw_loop hm0 hm hn k _ found r f a4 a5 a6 a7 a8 a9 a10 a11 a12 h (by omega) (by omega) (by simp only [List.length_append, List.length_reverse, List.length_map]; omega) fun p hp => by
        rcases List.mem_append.mp hp with hp | hp
        · rw [List.mem_reverse] at hp
          obtain ⟨q, _, rfl⟩ := List.mem_map.mp hp
          simp only [List.length_append, List.length_cons, List.length_nil]
          omega
        · have := hw p (List.mem_cons_of_mem _ hp); omega
      exact ⟨d, k4, k5, k6, k7, k8, k9, k10, k11, k12, (wh_true (lw_test.trans (congrArg some e0)) e).trans ih⟩
/-- the law's ways, the last one first -/
def waysL (m n : Nat) : Option (List (List B)) := lwGo m n WN [([], 0)] []
theorem lw_sorts {r : List (List B)} (ho : r.all ordB = true) {s0 s1 s3 s4 s5 s6 s7 s8 s9 s10 s11 s12 : Option R} (b : Bool) : evE ic__law_ways_5 b [s0, s1, some (true, .list (r.map encW)), s3, s4, s5, s6, s7, s8, s9, s10, s11, s12] = some (true, .list (r.map encW)) := by
  unfold ic__law_ways_5
  simp only [q_wipeR_1, q_wipeR_2, q_asg_1, q_asg_2, q_asg_3, q_asg_4, q_asgR_1, q_ownedArg_1, q_ownedArgs_1, q_ownedArgs_2, q_itemsOf_1, q_itemsOf_2, q_evE_1, q_evE_2, q_evE_3, q_evE_4, q_evE_5, q_evE_6, q_evE_7, q_evE_8, q_evE_9, q_evE_10, q_evE_11, q_evE_12, q_evE_13, q_evE_14, q_evE_15, q_evE_16, q_evE_17, q_evE_18, q_evE_19, q_evE_20, q_evEs_1, q_evEs_2, q_evP_1, q_evP_2, q_evC_1, q_evC_2, q_evI_1, q_evI_2, q_evRet_1, q_evS_1, q_evS_2, q_evS_3, q_evS_4, q_evS_5, q_evS_6, q_evS_7, q_evS_8, q_evS_9, q_evS_10, q_evS_11, q_evS_12, q_evS_13, q_evS_14, q_evS_15, q_evS_16, q_evSs_1, q_evSs_2, q_oa_0, q_rt_0, q_oa_1, q_rt_1, q_oa_2, q_rt_2, q_oa_3, q_rt_3, q_oa_4, q_rt_4, q_oa_5, q_rt_5, q_oa_6, q_rt_6, q_oa_7, q_rt_7, q_oa_8, q_rt_8, q_oa_9, q_rt_9, q_oa_10, q_rt_10, q_oa_11, q_rt_11, q_oa_12, q_rt_12, q_oa_13, q_rt_13, q_oa_14, q_rt_14, q_oa_15, q_rt_15, q_oa_16, q_rt_16, q_oa_17, q_rt_17, q_ar_0, q_ar_1, q_ar_2, asI_N, asI_i, q_l2, q_l3, q_l4, q_l5, q_l6, q_l7, q_l8, q_l9, q_l10, q_l11, q_l12, q_l13, q_ret, q_bind, q_bindn, q_map, q_mapn, q_one, q_zero, q_evT, q_own, evNeg, startR, List.getElem?_cons_succ, List.getElem?_cons_zero, List.set_cons_succ, List.set_cons_zero, List.map_cons, List.map_nil, List.replicate, List.length_cons, List.length_nil, List.append_eq, List.nil_append, List.cons_append, Bool.and_true, Bool.true_and, Bool.and_false, Bool.false_and, Bool.not_true, Bool.not_false, if_true, if_false, reduceCtorEq, Nat.reduceSub, Nat.reduceAdd, Nat.reduceLeDiff, Bool.false_eq_true, Bool.or_false, Bool.false_or, ite_true, ite_false, n_add, lenOk_0, lenOk_1, lenOk_2, lenOk_3, lenOk_4, lenOk_5, lenOk_6, lenOk_7, lenOk_8]
  have e : compGo (fun d => (evBI .sorted [d]).map fun r => some r.2) (r.map encW) = some (r.map encW) := by
    rw [compGo_map (en2 := encW) (fun w => some w), filterMap_some, List.map_id'] 
    intro w hw
    rw [sorted_B (List.all_eq_true.mp ho w hw)]
    rfl
  exact congrArg (Option.map fun ys => (true, PyData.list ys)) e
theorem law_ways_is {m n : Nat} {r : List (List B)} (hm0 : 0 < m) (hm : m ≤ 20) (hn : n ≤ 20) (h : waysL m n = some r) (ho : r.all ordB = true) : ∃ L, f__law_ways [N m, N n] = some (true, .list L) ∧ L.Perm (r.map encW) := by
  obtain ⟨d, k4, k5, k6, k7, k8, k9, k10, k11, k12, e⟩ := lw_loop hm0 hm hn WN [([], 0)] [] r FUEL none none none none none none none none none h (by decide) (by decide) (by decide) (by decide)
  have ho2 : r.reverse.all ordB = true := by rw [List.all_reverse]; exact ho
  obtain ⟨L, e2, hp⟩ := n_sortedP (sdok_W r.reverse) fun d hd => by obtain ⟨w, _, rfl⟩ := List.mem_map.mp hd; rfl
  refine ⟨L, ?_, hp.trans (by rw [List.map_reverse]; exact List.reverse_perm _)⟩
  have e : whileGo (tst iw__law_ways_4) (blk FUEL ib__law_ways_4) FUEL [sN m, sN n, some (true, .list []), some (true, .list [.tuple [N 0, .list []]]), none, none, none, none, none, none, none, none, none] = _ := e
  unfold f__law_ways evDef ir__law_ways
  simp only [q_wipeR_1, q_wipeR_2, q_asg_1, q_asg_2, q_asg_3, q_asg_4, q_asgR_1, q_ownedArg_1, q_ownedArgs_1, q_ownedArgs_2, q_itemsOf_1, q_itemsOf_2, q_evE_1, q_evE_2, q_evE_3, q_evE_4, q_evE_5, q_evE_6, q_evE_7, q_evE_8, q_evE_9, q_evE_10, q_evE_11, q_evE_12, q_evE_13, q_evE_14, q_evE_15, q_evE_16, q_evE_17, q_evE_18, q_evE_19, q_evE_20, q_evEs_1, q_evEs_2, q_evP_1, q_evP_2, q_evC_1, q_evC_2, q_evI_1, q_evI_2, q_evRet_1, q_evS_1, q_evS_2, q_evS_3, q_evS_4, q_evS_5, q_evS_6, q_evS_7, q_evS_8, q_evS_9, q_evS_10, q_evS_11, q_evS_12, q_evS_13, q_evS_14, q_evS_15, q_evS_16, q_evSs_1, q_evSs_2, q_oa_0, q_rt_0, q_oa_1, q_rt_1, q_oa_2, q_rt_2, q_oa_3, q_rt_3, q_oa_4, q_rt_4, q_oa_5, q_rt_5, q_oa_6, q_rt_6, q_oa_7, q_rt_7, q_oa_8, q_rt_8, q_oa_9, q_rt_9, q_oa_10, q_rt_10, q_oa_11, q_rt_11, q_oa_12, q_rt_12, q_oa_13, q_rt_13, q_oa_14, q_rt_14, q_oa_15, q_rt_15, q_oa_16, q_rt_16, q_oa_17, q_rt_17, q_ar_0, q_ar_1, q_ar_2, asI_N, asI_i, q_l2, q_l3, q_l4, q_l5, q_l6, q_l7, q_l8, q_l9, q_l10, q_l11, q_l12, q_l13, q_ret, q_bind, q_bindn, q_map, q_mapn, q_one, q_zero, q_evT, q_own, evNeg, startR, List.getElem?_cons_succ, List.getElem?_cons_zero, List.set_cons_succ, List.set_cons_zero, List.map_cons, List.map_nil, List.replicate, List.length_cons, List.length_nil, List.append_eq, List.nil_append, List.cons_append, Bool.and_true, Bool.true_and, Bool.and_false, Bool.false_and, Bool.not_true, Bool.not_false, if_true, if_false, reduceCtorEq, Nat.reduceSub, Nat.reduceAdd, Nat.reduceLeDiff, Bool.false_eq_true, Bool.or_false, Bool.false_or, ite_true, ite_false, n_add, lenOk_0, lenOk_1, lenOk_2, lenOk_3, lenOk_4, lenOk_5, lenOk_6, lenOk_7, lenOk_8]
  rw [e]
  simp only [q_wipeR_1, q_wipeR_2, q_asg_1, q_asg_2, q_asg_3, q_asg_4, q_asgR_1, q_ownedArg_1, q_ownedArgs_1, q_ownedArgs_2, q_itemsOf_1, q_itemsOf_2, q_evE_1, q_evE_2, q_evE_3, q_evE_4, q_evE_5, q_evE_6, q_evE_7, q_evE_8, q_evE_9, q_evE_10, q_evE_11, q_evE_12, q_evE_13, q_evE_14, q_evE_15, q_evE_16, q_evE_17, q_evE_18, q_evE_19, q_evE_20, q_evEs_1, q_evEs_2, q_evP_1, q_evP_2, q_evC_1, q_evC_2, q_evI_1, q_evI_2, q_evRet_1, q_evS_1, q_evS_2, q_evS_3, q_evS_4, q_evS_5, q_evS_6, q_evS_7, q_evS_8, q_evS_9, q_evS_10, q_evS_11, q_evS_12, q_evS_13, q_evS_14, q_evS_15, q_evS_16, q_evSs_1, q_evSs_2, q_oa_0, q_rt_0, q_oa_1, q_rt_1, q_oa_2, q_rt_2, q_oa_3, q_rt_3, q_oa_4, q_rt_4, q_oa_5, q_rt_5, q_oa_6, q_rt_6, q_oa_7, q_rt_7, q_oa_8, q_rt_8, q_oa_9, q_rt_9, q_oa_10, q_rt_10, q_oa_11, q_rt_11, q_oa_12, q_rt_12, q_oa_13, q_rt_13, q_oa_14, q_rt_14, q_oa_15, q_rt_15, q_oa_16, q_rt_16, q_oa_17, q_rt_17, q_ar_0, q_ar_1, q_ar_2, asI_N, asI_i, q_l2, q_l3, q_l4, q_l5, q_l6, q_l7, q_l8, q_l9, q_l10, q_l11, q_l12, q_l13, q_ret, q_bind, q_bindn, q_map, q_mapn, q_one, q_zero, q_evT, q_own, evNeg, startR, List.getElem?_cons_succ, List.getElem?_cons_zero, List.set_cons_succ, List.set_cons_zero, List.map_cons, List.map_nil, List.replicate, List.length_cons, List.length_nil, List.append_eq, List.nil_append, List.cons_append, Bool.and_true, Bool.true_and, Bool.and_false, Bool.false_and, Bool.not_true, Bool.not_false, if_true, if_false, reduceCtorEq, Nat.reduceSub, Nat.reduceAdd, Nat.reduceLeDiff, Bool.false_eq_true, Bool.or_false, Bool.false_or, ite_true, ite_false, n_add, lenOk_0, lenOk_1, lenOk_2, lenOk_3, lenOk_4, lenOk_5, lenOk_6, lenOk_7, lenOk_8, lw_sorts ho2, e2]
end K88

set_option Elab.async false
set_option linter.all false
set_option maxRecDepth 100000
set_option maxHeartbeats 4000000
namespace K88
open PySem L2 PV
theorem n_sll (xs : List PyData) (k : Nat) : evSl (.list xs) (some (k : Int)) none = some (true, .list (xs.drop k)) := by
  show some (true, PyData.list (cutD xs (some (k : Int)) none)) = _
  unfold cutD
  rw [HT.sIx_none, HT.sIx_nat]
  rcases Nat.le_total k xs.length with h | h
  · rw [Nat.min_eq_left h, List.take_of_length_le (by rw [List.length_drop]; omega)]
  · rw [Nat.min_eq_right h, List.drop_eq_nil_of_le (Nat.le_refl _), List.drop_eq_nil_of_le h, List.take_nil]
theorem lc_1 {s0 s1 s3 s5 s6 : Option R} {part : List B} {side : Nat} (b : Bool) (h : side < 2) : evE ic__law_comes_1 b [s0, s1, some (false, encW part), s3, sN side, s5, s6] = some (true, .list ((part.map (co side)).map N)) := by
  unfold ic__law_comes_1
  have e0 : itemsOf (encW part) = some (part.map encB) := rfl
  simp only [q_wipeR_1, q_wipeR_2, q_asg_1, q_asg_2, q_asg_3, q_asg_4, q_asgR_1, q_ownedArg_1, q_ownedArgs_1, q_ownedArgs_2, q_itemsOf_1, q_itemsOf_2, q_evE_1, q_evE_2, q_evE_3, q_evE_4, q_evE_5, q_evE_6, q_evE_7, q_evE_8, q_evE_9, q_evE_10, q_evE_11, q_evE_12, q_evE_13, q_evE_14, q_evE_15, q_evE_16, q_evE_17, q_evE_18, q_evE_19, q_evE_20, q_evEs_1, q_evEs_2, q_evP_1, q_evP_2, q_evC_1, q_evC_2, q_evI_1, q_evI_2, q_evRet_1, q_evS_1, q_evS_2, q_evS_3, q_evS_4, q_evS_5, q_evS_6, q_evS_7, q_evS_8, q_evS_9, q_evS_10, q_evS_11, q_evS_12, q_evS_13, q_evS_14, q_evS_15, q_evS_16, q_evSs_1, q_evSs_2, q_oa_0, q_rt_0, q_oa_1, q_rt_1, q_oa_2, q_rt_2, q_oa_3, q_rt_3, q_oa_4, q_rt_4, q_oa_5, q_rt_5, q_oa_6, q_rt_6, q_oa_7, q_rt_7, q_oa_8, q_rt_8, q_oa_9, q_rt_9, q_oa_10, q_rt_10, q_oa_11, q_rt_11, q_oa_12, q_rt_12, q_oa_13, q_rt_13, q_oa_14, q_rt_14, q_oa_15, q_rt_15, q_oa_16, q_rt_16, q_oa_17, q_rt_17, q_ar_0, q_ar_1, q_ar_2, asI_N, asI_i, q_l2, q_l3, q_l4, q_l5, q_l6, q_l7, q_l8, q_l9, q_l10, q_l11, q_l12, q_l13, q_ret, q_bind, q_bindn, q_map, q_mapn, q_one, q_zero, q_evT, q_own, evNeg, startR, List.getElem?_cons_succ, List.getElem?_cons_zero, List.set_cons_succ, List.set_cons_zero, List.map_cons, List.map_nil, List.replicate, List.length_cons, List.length_nil, List.append_eq, List.nil_append, List.cons_append, Bool.and_true, Bool.true_and, Bool.and_false, Bool.false_and, Bool.not_true, Bool.not_false, if_true, if_false, reduceCtorEq, Nat.reduceSub, Nat.reduceAdd, Nat.reduceLeDiff, Bool.false_eq_true, Bool.or_false, Bool.false_or, ite_true, ite_false, n_add, lenOk_0, lenOk_1, lenOk_2, lenOk_3, lenOk_4, lenOk_5, lenOk_6, lenOk_7, lenOk_8, e0]
  rw [compGo_map (en2 := N) (fun b => some (co side b)), filterMap_some]
  · simp only [q_wipeR_1, q_wipeR_2, q_asg_1, q_asg_2, q_asg_3, q_asg_4, q_asgR_1, q_ownedArg_1, q_ownedArgs_1, q_ownedArgs_2, q_itemsOf_1, q_itemsOf_2, q_evE_1, q_evE_2, q_evE_3, q_evE_4, q_evE_5, q_evE_6, q_evE_7, q_evE_8, q_evE_9, q_evE_10, q_evE_11, q_evE_12, q_evE_13, q_evE_14, q_evE_15, q_evE_16, q_evE_17, q_evE_18, q_evE_19, q_evE_20, q_evEs_1, q_evEs_2, q_evP_1, q_evP_2, q_evC_1, q_evC_2, q_evI_1, q_evI_2, q_evRet_1, q_evS_1, q_evS_2, q_evS_3, q_evS_4, q_evS_5, q_evS_6, q_evS_7, q_evS_8, q_evS_9, q_evS_10, q_evS_11, q_evS_12, q_evS_13, q_evS_14, q_evS_15, q_evS_16, q_evSs_1, q_evSs_2, q_oa_0, q_rt_0, q_oa_1, q_rt_1, q_oa_2, q_rt_2, q_oa_3, q_rt_3, q_oa_4, q_rt_4, q_oa_5, q_rt_5, q_oa_6, q_rt_6, q_oa_7, q_rt_7, q_oa_8, q_rt_8, q_oa_9, q_rt_9, q_oa_10, q_rt_10, q_oa_11, q_rt_11, q_oa_12, q_rt_12, q_oa_13, q_rt_13, q_oa_14, q_rt_14, q_oa_15, q_rt_15, q_oa_16, q_rt_16, q_oa_17, q_rt_17, q_ar_0, q_ar_1, q_ar_2, asI_N, asI_i, q_l2, q_l3, q_l4, q_l5, q_l6, q_l7, q_l8, q_l9, q_l10, q_l11, q_l12, q_l13, q_ret, q_bind, q_bindn, q_map, q_mapn, q_one, q_zero, q_evT, q_own, evNeg, startR, List.getElem?_cons_succ, List.getElem?_cons_zero, List.set_cons_succ, List.set_cons_zero, List.map_cons, List.map_nil, List.replicate, List.length_cons, List.length_nil, List.append_eq, List.nil_append, List.cons_append, Bool.and_true, Bool.true_and, Bool.and_false, Bool.false_and, Bool.not_true, Bool.not_false, if_true, if_false, reduceCtorEq, Nat.reduceSub, Nat.reduceAdd, Nat.reduceLeDiff, Bool.false_eq_true, Bool.or_false, Bool.false_or, ite_true, ite_false, n_add, lenOk_0, lenOk_1, lenOk_2, lenOk_3, lenOk_4, lenOk_5, lenOk_6, lenOk_7, lenOk_8]
  · intro b _
    simp only [q_wipeR_1, q_wipeR_2, q_asg_1, q_asg_2, q_asg_3, q_asg_4, q_asgR_1, q_ownedArg_1, q_ownedArgs_1, q_ownedArgs_2, q_itemsOf_1, q_itemsOf_2, q_evE_1, q_evE_2, q_evE_3, q_evE_4, q_evE_5, q_evE_6, q_evE_7, q_evE_8, q_evE_9, q_evE_10, q_evE_11, q_evE_12, q_evE_13, q_evE_14, q_evE_15, q_evE_16, q_evE_17, q_evE_18, q_evE_19, q_evE_20, q_evEs_1, q_evEs_2, q_evP_1, q_evP_2, q_evC_1, q_evC_2, q_evI_1, q_evI_2, q_evRet_1, q_evS_1, q_evS_2, q_evS_3, q_evS_4, q_evS_5, q_evS_6, q_evS_7, q_evS_8, q_evS_9, q_evS_10, q_evS_11, q_evS_12, q_evS_13, q_evS_14, q_evS_15, q_evS_16, q_evSs_1, q_evSs_2, q_oa_0, q_rt_0, q_oa_1, q_rt_1, q_oa_2, q_rt_2, q_oa_3, q_rt_3, q_oa_4, q_rt_4, q_oa_5, q_rt_5, q_oa_6, q_rt_6, q_oa_7, q_rt_7, q_oa_8, q_rt_8, q_oa_9, q_rt_9, q_oa_10, q_rt_10, q_oa_11, q_rt_11, q_oa_12, q_rt_12, q_oa_13, q_rt_13, q_oa_14, q_rt_14, q_oa_15, q_rt_15, q_oa_16, q_rt_16, q_oa_17, q_rt_17, q_ar_0, q_ar_1, q_ar_2, asI_N, asI_i, q_l2, q_l3, q_l4, q_l5, q_l6, q_l7, q_l8, q_l9, q_l10, q_l11, q_l12, q_l13, q_ret, q_bind, q_bindn, q_map, q_mapn, q_one, q_zero, q_evT, q_own, evNeg, startR, List.getElem?_cons_succ, List.getElem?_cons_zero, List.set_cons_succ, List.set_cons_zero, List.map_cons, List.map_nil, List.replicate, List.length_cons, List.length_nil, List.append_eq, List.nil_append, List.cons_append, Bool.and_true, Bool.true_and, Bool.and_false, Bool.false_and, Bool.not_true, Bool.not_false, if_true, if_false, reduceCtorEq, Nat.reduceSub, Nat.reduceAdd, Nat.reduceLeDiff, Bool.false_eq_true, Bool.or_false, Bool.false_or, ite_true, ite_false, n_add, lenOk_0, lenOk_1, lenOk_2, lenOk_3, lenOk_4, lenOk_5, lenOk_6, lenOk_7, lenOk_8, ix_co h]
theorem lc_2 {s0 s1 s3 s6 : Option R} {part : List B} {side line : Nat} (b : Bool) (h : side < 2) : evE ic__law_comes_2 b [s0, s1, some (false, encW part), s3, sN side, sN line, s6] = some (true, encW (keepIf (crosses side line) part)) := by
  unfold ic__law_comes_2
  have e0 : itemsOf (encW part) = some (part.map encB) := rfl
  simp only [q_wipeR_1, q_wipeR_2, q_asg_1, q_asg_2, q_asg_3, q_asg_4, q_asgR_1, q_ownedArg_1, q_ownedArgs_1, q_ownedArgs_2, q_itemsOf_1, q_itemsOf_2, q_evE_1, q_evE_2, q_evE_3, q_evE_4, q_evE_5, q_evE_6, q_evE_7, q_evE_8, q_evE_9, q_evE_10, q_evE_11, q_evE_12, q_evE_13, q_evE_14, q_evE_15, q_evE_16, q_evE_17, q_evE_18, q_evE_19, q_evE_20, q_evEs_1, q_evEs_2, q_evP_1, q_evP_2, q_evC_1, q_evC_2, q_evI_1, q_evI_2, q_evRet_1, q_evS_1, q_evS_2, q_evS_3, q_evS_4, q_evS_5, q_evS_6, q_evS_7, q_evS_8, q_evS_9, q_evS_10, q_evS_11, q_evS_12, q_evS_13, q_evS_14, q_evS_15, q_evS_16, q_evSs_1, q_evSs_2, q_oa_0, q_rt_0, q_oa_1, q_rt_1, q_oa_2, q_rt_2, q_oa_3, q_rt_3, q_oa_4, q_rt_4, q_oa_5, q_rt_5, q_oa_6, q_rt_6, q_oa_7, q_rt_7, q_oa_8, q_rt_8, q_oa_9, q_rt_9, q_oa_10, q_rt_10, q_oa_11, q_rt_11, q_oa_12, q_rt_12, q_oa_13, q_rt_13, q_oa_14, q_rt_14, q_oa_15, q_rt_15, q_oa_16, q_rt_16, q_oa_17, q_rt_17, q_ar_0, q_ar_1, q_ar_2, asI_N, asI_i, q_l2, q_l3, q_l4, q_l5, q_l6, q_l7, q_l8, q_l9, q_l10, q_l11, q_l12, q_l13, q_ret, q_bind, q_bindn, q_map, q_mapn, q_one, q_zero, q_evT, q_own, evNeg, startR, List.getElem?_cons_succ, List.getElem?_cons_zero, List.set_cons_succ, List.set_cons_zero, List.map_cons, List.map_nil, List.replicate, List.length_cons, List.length_nil, List.append_eq, List.nil_append, List.cons_append, Bool.and_true, Bool.true_and, Bool.and_false, Bool.false_and, Bool.not_true, Bool.not_false, if_true, if_false, reduceCtorEq, Nat.reduceSub, Nat.reduceAdd, Nat.reduceLeDiff, Bool.false_eq_true, Bool.or_false, Bool.false_or, ite_true, ite_false, n_add, lenOk_0, lenOk_1, lenOk_2, lenOk_3, lenOk_4, lenOk_5, lenOk_6, lenOk_7, lenOk_8, e0]
  rw [compGo_map (en2 := encB) (fun b => if crosses side line b then some b else none)]
  · rfl
  · intro b _
    unfold crosses
    simp only [q_wipeR_1, q_wipeR_2, q_asg_1, q_asg_2, q_asg_3, q_asg_4, q_asgR_1, q_ownedArg_1, q_ownedArgs_1, q_ownedArgs_2, q_itemsOf_1, q_itemsOf_2, q_evE_1, q_evE_2, q_evE_3, q_evE_4, q_evE_5, q_evE_6, q_evE_7, q_evE_8, q_evE_9, q_evE_10, q_evE_11, q_evE_12, q_evE_13, q_evE_14, q_evE_15, q_evE_16, q_evE_17, q_evE_18, q_evE_19, q_evE_20, q_evEs_1, q_evEs_2, q_evP_1, q_evP_2, q_evC_1, q_evC_2, q_evI_1, q_evI_2, q_evRet_1, q_evS_1, q_evS_2, q_evS_3, q_evS_4, q_evS_5, q_evS_6, q_evS_7, q_evS_8, q_evS_9, q_evS_10, q_evS_11, q_evS_12, q_evS_13, q_evS_14, q_evS_15, q_evS_16, q_evSs_1, q_evSs_2, q_oa_0, q_rt_0, q_oa_1, q_rt_1, q_oa_2, q_rt_2, q_oa_3, q_rt_3, q_oa_4, q_rt_4, q_oa_5, q_rt_5, q_oa_6, q_rt_6, q_oa_7, q_rt_7, q_oa_8, q_rt_8, q_oa_9, q_rt_9, q_oa_10, q_rt_10, q_oa_11, q_rt_11, q_oa_12, q_rt_12, q_oa_13, q_rt_13, q_oa_14, q_rt_14, q_oa_15, q_rt_15, q_oa_16, q_rt_16, q_oa_17, q_rt_17, q_ar_0, q_ar_1, q_ar_2, asI_N, asI_i, q_l2, q_l3, q_l4, q_l5, q_l6, q_l7, q_l8, q_l9, q_l10, q_l11, q_l12, q_l13, q_ret, q_bind, q_bindn, q_map, q_mapn, q_one, q_zero, q_evT, q_own, evNeg, startR, List.getElem?_cons_succ, List.getElem?_cons_zero, List.set_cons_succ, List.set_cons_zero, List.map_cons, List.map_nil, List.replicate, List.length_cons, List.length_nil, List.append_eq, List.nil_append, List.cons_append, Bool.and_true, Bool.true_and, Bool.and_false, Bool.false_and, Bool.not_true, Bool.not_false, if_true, if_false, reduceCtorEq, Nat.reduceSub, Nat.reduceAdd, Nat.reduceLeDiff, Bool.false_eq_true, Bool.or_false, Bool.false_or, ite_true, ite_false, n_add, lenOk_0, lenOk_1, lenOk_2, lenOk_3, lenOk_4, lenOk_5, lenOk_6, lenOk_7, lenOk_8, ix_co h, n_lt]
    cases decide (co side b < line) <;> simp only [q_wipeR_1, q_wipeR_2, q_asg_1, q_asg_2, q_asg_3, q_asg_4, q_asgR_1, q_ownedArg_1, q_ownedArgs_1, q_ownedArgs_2, q_itemsOf_1, q_itemsOf_2, q_evE_1, q_evE_2, q_evE_3, q_evE_4, q_evE_5, q_evE_6, q_evE_7, q_evE_8, q_evE_9, q_evE_10, q_evE_11, q_evE_12, q_evE_13, q_evE_14, q_evE_15, q_evE_16, q_evE_17, q_evE_18, q_evE_19, q_evE_20, q_evEs_1, q_evEs_2, q_evP_1, q_evP_2, q_evC_1, q_evC_2, q_evI_1, q_evI_2, q_evRet_1, q_evS_1, q_evS_2, q_evS_3, q_evS_4, q_evS_5, q_evS_6, q_evS_7, q_evS_8, q_evS_9, q_evS_10, q_evS_11, q_evS_12, q_evS_13, q_evS_14, q_evS_15, q_evS_16, q_evSs_1, q_evSs_2, q_oa_0, q_rt_0, q_oa_1, q_rt_1, q_oa_2, q_rt_2, q_oa_3, q_rt_3, q_oa_4, q_rt_4, q_oa_5, q_rt_5, q_oa_6, q_rt_6, q_oa_7, q_rt_7, q_oa_8, q_rt_8, q_oa_9, q_rt_9, q_oa_10, q_rt_10, q_oa_11, q_rt_11, q_oa_12, q_rt_12, q_oa_13, q_rt_13, q_oa_14, q_rt_14, q_oa_15, q_rt_15, q_oa_16, q_rt_16, q_oa_17, q_rt_17, q_ar_0, q_ar_1, q_ar_2, asI_N, asI_i, q_l2, q_l3, q_l4, q_l5, q_l6, q_l7, q_l8, q_l9, q_l10, q_l11, q_l12, q_l13, q_ret, q_bind, q_bindn, q_map, q_mapn, q_one, q_zero, q_evT, q_own, evNeg, startR, List.getElem?_cons_succ, List.getElem?_cons_zero, List.set_cons_succ, List.set_cons_zero, List.map_cons, List.map_nil, List.replicate, List.length_cons, List.length_nil, List.append_eq, List.nil_append, List.cons_append, Bool.and_true, Bool.true_and, Bool.and_false, Bool.false_and, Bool.not_true, Bool.not_false, if_true, if_false, reduceCtorEq, Nat.reduceSub, Nat.reduceAdd, Nat.reduceLeDiff, Bool.false_eq_true, Bool.or_false, Bool.false_or, ite_true, ite_false, n_add, lenOk_0, lenOk_1, lenOk_2, lenOk_3, lenOk_4, lenOk_5, lenOk_6, lenOk_7, lenOk_8, ix_co h, ix_sz h, n_gt]
    cases decide (line < co side b + sz side b) <;> simp only [q_wipeR_1, q_wipeR_2, q_asg_1, q_asg_2, q_asg_3, q_asg_4, q_asgR_1, q_ownedArg_1, q_ownedArgs_1, q_ownedArgs_2, q_itemsOf_1, q_itemsOf_2, q_evE_1, q_evE_2, q_evE_3, q_evE_4, q_evE_5, q_evE_6, q_evE_7, q_evE_8, q_evE_9, q_evE_10, q_evE_11, q_evE_12, q_evE_13, q_evE_14, q_evE_15, q_evE_16, q_evE_17, q_evE_18, q_evE_19, q_evE_20, q_evEs_1, q_evEs_2, q_evP_1, q_evP_2, q_evC_1, q_evC_2, q_evI_1, q_evI_2, q_evRet_1, q_evS_1, q_evS_2, q_evS_3, q_evS_4, q_evS_5, q_evS_6, q_evS_7, q_evS_8, q_evS_9, q_evS_10, q_evS_11, q_evS_12, q_evS_13, q_evS_14, q_evS_15, q_evS_16, q_evSs_1, q_evSs_2, q_oa_0, q_rt_0, q_oa_1, q_rt_1, q_oa_2, q_rt_2, q_oa_3, q_rt_3, q_oa_4, q_rt_4, q_oa_5, q_rt_5, q_oa_6, q_rt_6, q_oa_7, q_rt_7, q_oa_8, q_rt_8, q_oa_9, q_rt_9, q_oa_10, q_rt_10, q_oa_11, q_rt_11, q_oa_12, q_rt_12, q_oa_13, q_rt_13, q_oa_14, q_rt_14, q_oa_15, q_rt_15, q_oa_16, q_rt_16, q_oa_17, q_rt_17, q_ar_0, q_ar_1, q_ar_2, asI_N, asI_i, q_l2, q_l3, q_l4, q_l5, q_l6, q_l7, q_l8, q_l9, q_l10, q_l11, q_l12, q_l13, q_ret, q_bind, q_bindn, q_map, q_mapn, q_one, q_zero, q_evT, q_own, evNeg, startR, List.getElem?_cons_succ, List.getElem?_cons_zero, List.set_cons_succ, List.set_cons_zero, List.map_cons, List.map_nil, List.replicate, List.length_cons, List.length_nil, List.append_eq, List.nil_append, List.cons_append, Bool.and_true, Bool.true_and, Bool.and_false, Bool.false_and, Bool.not_true, Bool.not_false, if_true, if_false, reduceCtorEq, Nat.reduceSub, Nat.reduceAdd, Nat.reduceLeDiff, Bool.false_eq_true, Bool.or_false, Bool.false_or, ite_true, ite_false, n_add, lenOk_0, lenOk_1, lenOk_2, lenOk_3, lenOk_4, lenOk_5, lenOk_6, lenOk_7, lenOk_8]
theorem keepIf_nil {p : B → Bool} : ∀ {l : List B}, (keepIf p l).isEmpty = !l.any p
  | [] => rfl
  | b :: l => by
    unfold keepIf
    cases h : p b with
    | true => rw [List.filterMap_cons_some (by rw [h]; rfl), List.any_cons, h]; rfl
    | false =>
      rw [List.filterMap_cons_none (by rw [h]; rfl), List.any_cons, h, Bool.false_or]
      exact keepIf_nil (l := l)
theorem lc_eq {part : List B} {side line : Nat} : evCmp .eq (encW (keepIf (crosses side line) part)) (.list []) = some (clear part side line) := by
  have h := n_eqNil (ds := (keepIf (crosses side line) part).map encB) ((dk_list (k := 1) (dk_map dk_B)).dok (by decide))
  refine h.trans ?_
  rw [List.isEmpty_map, keepIf_nil]
  rfl
def cutStep (part : List B) (side : Nat) (c : Option (Nat × Nat)) (line : Nat) : Option (Nat × Nat) := if clear part side line then some (side, line) else c
theorem lc_body {s0 s1 s6 j5 : Option R} {part : List B} {side line : Nat} {c : Option (Nat × Nat)} (h : side < 2) : blk FUEL ib__law_comes_3 [s0, s1, some (false, encW part), some (false, encO c), sN side, sN line, s6] = some (.nx [s0, s1, some (false, encW part), some (false, encO (cutStep part side c line)), sN side, sN line, s6]) := by
  unfold blk ib__law_comes_3 cutStep
  simp only [q_wipeR_1, q_wipeR_2, q_asg_1, q_asg_2, q_asg_3, q_asg_4, q_asgR_1, q_ownedArg_1, q_ownedArgs_1, q_ownedArgs_2, q_itemsOf_1, q_itemsOf_2, q_evE_1, q_evE_2, q_evE_3, q_evE_4, q_evE_5, q_evE_6, q_evE_7, q_evE_8, q_evE_9, q_evE_10, q_evE_11, q_evE_12, q_evE_13, q_evE_14, q_evE_15, q_evE_16, q_evE_17, q_evE_18, q_evE_19, q_evE_20, q_evEs_1, q_evEs_2, q_evP_1, q_evP_2, q_evC_1, q_evC_2, q_evI_1, q_evI_2, q_evRet_1, q_evS_1, q_evS_2, q_evS_3, q_evS_4, q_evS_5, q_evS_6, q_evS_7, q_evS_8, q_evS_9, q_evS_10, q_evS_11, q_evS_12, q_evS_13, q_evS_14, q_evS_15, q_evS_16, q_evSs_1, q_evSs_2, q_oa_0, q_rt_0, q_oa_1, q_rt_1, q_oa_2, q_rt_2, q_oa_3, q_rt_3, q_oa_4, q_rt_4, q_oa_5, q_rt_5, q_oa_6, q_rt_6, q_oa_7, q_rt_7, q_oa_8, q_rt_8, q_oa_9, q_rt_9, q_oa_10, q_rt_10, q_oa_11, q_rt_11, q_oa_12, q_rt_12, q_oa_13, q_rt_13, q_oa_14, q_rt_14, q_oa_15, q_rt_15, q_oa_16, q_rt_16, q_oa_17, q_rt_17, q_ar_0, q_ar_1, q_ar_2, asI_N, asI_i, q_l2, q_l3, q_l4, q_l5, q_l6, q_l7, q_l8, q_l9, q_l10, q_l11, q_l12, q_l13, q_ret, q_bind, q_bindn, q_map, q_mapn, q_one, q_zero, q_evT, q_own, evNeg, startR, List.getElem?_cons_succ, List.getElem?_cons_zero, List.set_cons_succ, List.set_cons_zero, List.map_cons, List.map_nil, List.replicate, List.length_cons, List.length_nil, List.append_eq, List.nil_append, List.cons_append, Bool.and_true, Bool.true_and, Bool.and_false, Bool.false_and, Bool.not_true, Bool.not_false, if_true, if_false, reduceCtorEq, Nat.reduceSub, Nat.reduceAdd, Nat.reduceLeDiff, Bool.false_eq_true, Bool.or_false, Bool.false_or, ite_true, ite_false, n_add, lenOk_0, lenOk_1, lenOk_2, lenOk_3, lenOk_4, lenOk_5, lenOk_6, lenOk_7, lenOk_8, lc_2 _ h, lc_eq]
  cases clear part side line <;> simp only [q_wipeR_1, q_wipeR_2, q_asg_1, q_asg_2, q_asg_3, q_asg_4, q_asgR_1, q_ownedArg_1, q_ownedArgs_1, q_ownedArgs_2, q_itemsOf_1, q_itemsOf_2, q_evE_1, q_evE_2, q_evE_3, q_evE_4, q_evE_5, q_evE_6, q_evE_7, q_evE_8, q_evE_9, q_evE_10, q_evE_11, q_evE_12, q_evE_13, q_evE_14, q_evE_15, q_evE_16, q_evE_17, q_evE_18, q_evE_19, q_evE_20, q_evEs_1, q_evEs_2, q_evP_1, q_evP_2, q_evC_1, q_evC_2, q_evI_1, q_evI_2, q_evRet_1, q_evS_1, q_evS_2, q_evS_3, q_evS_4, q_evS_5, q_evS_6, q_evS_7, q_evS_8, q_evS_9, q_evS_10, q_evS_11, q_evS_12, q_evS_13, q_evS_14, q_evS_15, q_evS_16, q_evSs_1, q_evSs_2, q_oa_0, q_rt_0, q_oa_1, q_rt_1, q_oa_2, q_rt_2, q_oa_3, q_rt_3, q_oa_4, q_rt_4, q_oa_5, q_rt_5, q_oa_6, q_rt_6, q_oa_7, q_rt_7, q_oa_8, q_rt_8, q_oa_9, q_rt_9, q_oa_10, q_rt_10, q_oa_11, q_rt_11, q_oa_12, q_rt_12, q_oa_13, q_rt_13, q_oa_14, q_rt_14, q_oa_15, q_rt_15, q_oa_16, q_rt_16, q_oa_17, q_rt_17, q_ar_0, q_ar_1, q_ar_2, asI_N, asI_i, q_l2, q_l3, q_l4, q_l5, q_l6, q_l7, q_l8, q_l9, q_l10, q_l11, q_l12, q_l13, q_ret, q_bind, q_bindn, q_map, q_mapn, q_one, q_zero, q_evT, q_own, evNeg, startR, List.getElem?_cons_succ, List.getElem?_cons_zero, List.set_cons_succ, List.set_cons_zero, List.map_cons, List.map_nil, List.replicate, List.length_cons, List.length_nil, List.append_eq, List.nil_append, List.cons_append, Bool.and_true, Bool.true_and, Bool.and_false, Bool.false_and, Bool.not_true, Bool.not_false, if_true, if_false, reduceCtorEq, Nat.reduceSub, Nat.reduceAdd, Nat.reduceLeDiff, Bool.false_eq_true, Bool.or_false, Bool.false_or, ite_true, ite_false, n_add, lenOk_0, lenOk_1, lenOk_2, lenOk_3, lenOk_4, lenOk_5, lenOk_6, lenOk_7, lenOk_8, encO]
def cutSide (part : List B) (side : Nat) (c : Option (Nat × Nat)) : Option (Nat × Nat) := ((sortN (dedupN (part.map (co side)))).drop 1).foldl (cutStep part side) c
theorem lc_lines {s0 s1 s6 : Option R} {part : List B} {side : Nat} (h : side < 2) : ∀ (l : List Nat) (c : Option (Nat × Nat)) (j5 : Option R), ∃ k5, forGo (.nm 5) (blk FUEL ib__law_comes_3) (l.map N) [s0, s1, some (false, encW part), some (false, encO c), sN side, j5, s6] = some (.nx [s0, s1, some (false, encW part), some (false, encO (l.foldl (cutStep part side) c)), sN side, k5, s6])
  | [], c, j5 => ⟨j5, rfl⟩
  | x :: l, c, j5 => by
    obtain ⟨k5, ih⟩ := lc_lines (s0 := s0) (s1 := s1) (s6 := s6) (part := part) h l (cutStep part side c x) (sN x)
    exact ⟨k5, (fr_nx (ρ1 := [s0, s1, some (false, encW part), some (false, encO c), sN side, sN x, s6]) rfl (lc_body (j5 := none) h)).trans ih⟩
theorem lc_side {s0 s1 s6 j5 : Option R} {part : List B} {side : Nat} {c : Option (Nat × Nat)} (h : side < 2) (h64 : part.length < 64) : ∃ k5, blk FUEL ib__law_comes_4 [s0, s1, some (false, encW part), some (false, encO c), sN side, j5, s6] = some (.nx [s0, s1, some (false, encW part), some (false, encO (cutSide part side c)), sN side, k5, s6]) := by
  obtain ⟨k5, e⟩ := lc_lines (s0 := s0) (s1 := s1) (s6 := s6) (part := part) h ((sortN (dedupN (part.map (co side)))).drop 1) c j5
  refine ⟨k5, ?_⟩
  have e2 : evBI .sortedSet [.list ((part.map (co side)).map N)] = some (true, .list ((sortN (dedupN (part.map (co side)))).map N)) := n_sset (by rw [List.length_map]; exact h64)
  have e3 : ∀ xs : List PyData, evSl (.list xs) (some ((1 : Nat) : Int)) none = some (true, .list (xs.drop 1)) := fun xs => n_sll xs 1
  unfold blk ib__law_comes_4
  simp only [q_wipeR_1, q_wipeR_2, q_asg_1, q_asg_2, q_asg_3, q_asg_4, q_asgR_1, q_ownedArg_1, q_ownedArgs_1, q_ownedArgs_2, q_itemsOf_1, q_itemsOf_2, q_evE_1, q_evE_2, q_evE_3, q_evE_4, q_evE_5, q_evE_6, q_evE_7, q_evE_8, q_evE_9, q_evE_10, q_evE_11, q_evE_12, q_evE_13, q_evE_14, q_evE_15, q_evE_16, q_evE_17, q_evE_18, q_evE_19, q_evE_20, q_evEs_1, q_evEs_2, q_evP_1, q_evP_2, q_evC_1, q_evC_2, q_evI_1, q_evI_2, q_evRet_1, q_evS_1, q_evS_2, q_evS_3, q_evS_4, q_evS_5, q_evS_6, q_evS_7, q_evS_8, q_evS_9, q_evS_10, q_evS_11, q_evS_12, q_evS_13, q_evS_14, q_evS_15, q_evS_16, q_evSs_1, q_evSs_2, q_oa_0, q_rt_0, q_oa_1, q_rt_1, q_oa_2, q_rt_2, q_oa_3, q_rt_3, q_oa_4, q_rt_4, q_oa_5, q_rt_5, q_oa_6, q_rt_6, q_oa_7, q_rt_7, q_oa_8, q_rt_8, q_oa_9, q_rt_9, q_oa_10, q_rt_10, q_oa_11, q_rt_11, q_oa_12, q_rt_12, q_oa_13, q_rt_13, q_oa_14, q_rt_14, q_oa_15, q_rt_15, q_oa_16, q_rt_16, q_oa_17, q_rt_17, q_ar_0, q_ar_1, q_ar_2, asI_N, asI_i, q_l2, q_l3, q_l4, q_l5, q_l6, q_l7, q_l8, q_l9, q_l10, q_l11, q_l12, q_l13, q_ret, q_bind, q_bindn, q_map, q_mapn, q_one, q_zero, q_evT, q_own, evNeg, startR, List.getElem?_cons_succ, List.getElem?_cons_zero, List.set_cons_succ, List.set_cons_zero, List.map_cons, List.map_nil, List.replicate, List.length_cons, List.length_nil, List.append_eq, List.nil_append, List.cons_append, Bool.and_true, Bool.true_and, Bool.and_false, Bool.false_and, Bool.not_true, Bool.not_false, if_true, if_false, reduceCtorEq, Nat.reduceSub, Nat.reduceAdd, Nat.reduceLeDiff, Bool.false_eq_true, Bool.or_false, Bool.false_or, ite_true, ite_false, n_add, lenOk_0, lenOk_1, lenOk_2, lenOk_3, lenOk_4, lenOk_5, lenOk_6, lenOk_7, lenOk_8, lc_1 _ h, e2, e3]
  rw [← List.map_drop, e]
  simp only [q_wipeR_1, q_wipeR_2, q_asg_1, q_asg_2, q_asg_3, q_asg_4, q_asgR_1, q_ownedArg_1, q_ownedArgs_1, q_ownedArgs_2, q_itemsOf_1, q_itemsOf_2, q_evE_1, q_evE_2, q_evE_3, q_evE_4, q_evE_5, q_evE_6, q_evE_7, q_evE_8, q_evE_9, q_evE_10, q_evE_11, q_evE_12, q_evE_13, q_evE_14, q_evE_15, q_evE_16, q_evE_17, q_evE_18, q_evE_19, q_evE_20, q_evEs_1, q_evEs_2, q_evP_1, q_evP_2, q_evC_1, q_evC_2, q_evI_1, q_evI_2, q_evRet_1, q_evS_1, q_evS_2, q_evS_3, q_evS_4, q_evS_5, q_evS_6, q_evS_7, q_evS_8, q_evS_9, q_evS_10, q_evS_11, q_evS_12, q_evS_13, q_evS_14, q_evS_15, q_evS_16, q_evSs_1, q_evSs_2, q_oa_0, q_rt_0, q_oa_1, q_rt_1, q_oa_2, q_rt_2, q_oa_3, q_rt_3, q_oa_4, q_rt_4, q_oa_5, q_rt_5, q_oa_6, q_rt_6, q_oa_7, q_rt_7, q_oa_8, q_rt_8, q_oa_9, q_rt_9, q_oa_10, q_rt_10, q_oa_11, q_rt_11, q_oa_12, q_rt_12, q_oa_13, q_rt_13, q_oa_14, q_rt_14, q_oa_15, q_rt_15, q_oa_16, q_rt_16, q_oa_17, q_rt_17, q_ar_0, q_ar_1, q_ar_2, asI_N, asI_i, q_l2, q_l3, q_l4, q_l5, q_l6, q_l7, q_l8, q_l9, q_l10, q_l11, q_l12, q_l13, q_ret, q_bind, q_bindn, q_map, q_mapn, q_one, q_zero, q_evT, q_own, evNeg, startR, List.getElem?_cons_succ, List.getElem?_cons_zero, List.set_cons_succ, List.set_cons_zero, List.map_cons, List.map_nil, List.replicate, List.length_cons, List.length_nil, List.append_eq, List.nil_append, List.cons_append, Bool.and_true, Bool.true_and, Bool.and_false, Bool.false_and, Bool.not_true, Bool.not_false, if_true, if_false, reduceCtorEq, Nat.reduceSub, Nat.reduceAdd, Nat.reduceLeDiff, Bool.false_eq_true, Bool.or_false, Bool.false_or, ite_true, ite_false, n_add, lenOk_0, lenOk_1, lenOk_2, lenOk_3, lenOk_4, lenOk_5, lenOk_6, lenOk_7, lenOk_8, cutSide]
def lastClear (part : List B) : Option (Nat × Nat) := cutSide part 1 (cutSide part 0 none)
def lcGo : Nat → List (List B) → Option Bool
  | 0, _ => none
  | _ + 1, [] => some true
  | k + 1, part :: st => if 1 < part.length then match lastClear part with
    | none => some false
    | some (side, line) => if side < 2 then lcGo k (uppers side line part :: lowers side line part :: st) else none
    else lcGo k st
theorem lc_5 {s0 s1 s4 s5 s6 : Option R} {part : List B} {side line : Nat} (b : Bool) (h : side < 2) : evE ic__law_comes_5 b [s0, s1, some (false, encW part), some (false, encO (some (side, line))), s4, s5, s6] = some (true, encW (lowers side line part)) := by
  unfold ic__law_comes_5
  have e0 : itemsOf (encW part) = some (part.map encB) := rfl
  have hx0 : evIx (encO (some (side, line))) (N 0) = some (false, N side) := n_ixt _ 0
  have hx1 : evIx (encO (some (side, line))) (N 1) = some (false, N line) := n_ixt _ 1
  simp only [q_wipeR_1, q_wipeR_2, q_asg_1, q_asg_2, q_asg_3, q_asg_4, q_asgR_1, q_ownedArg_1, q_ownedArgs_1, q_ownedArgs_2, q_itemsOf_1, q_itemsOf_2, q_evE_1, q_evE_2, q_evE_3, q_evE_4, q_evE_5, q_evE_6, q_evE_7, q_evE_8, q_evE_9, q_evE_10, q_evE_11, q_evE_12, q_evE_13, q_evE_14, q_evE_15, q_evE_16, q_evE_17, q_evE_18, q_evE_19, q_evE_20, q_evEs_1, q_evEs_2, q_evP_1, q_evP_2, q_evC_1, q_evC_2, q_evI_1, q_evI_2, q_evRet_1, q_evS_1, q_evS_2, q_evS_3, q_evS_4, q_evS_5, q_evS_6, q_evS_7, q_evS_8, q_evS_9, q_evS_10, q_evS_11, q_evS_12, q_evS_13, q_evS_14, q_evS_15, q_evS_16, q_evSs_1, q_evSs_2, q_oa_0, q_rt_0, q_oa_1, q_rt_1, q_oa_2, q_rt_2, q_oa_3, q_rt_3, q_oa_4, q_rt_4, q_oa_5, q_rt_5, q_oa_6, q_rt_6, q_oa_7, q_rt_7, q_oa_8, q_rt_8, q_oa_9, q_rt_9, q_oa_10, q_rt_10, q_oa_11, q_rt_11, q_oa_12, q_rt_12, q_oa_13, q_rt_13, q_oa_14, q_rt_14, q_oa_15, q_rt_15, q_oa_16, q_rt_16, q_oa_17, q_rt_17, q_ar_0, q_ar_1, q_ar_2, asI_N, asI_i, q_l2, q_l3, q_l4, q_l5, q_l6, q_l7, q_l8, q_l9, q_l10, q_l11, q_l12, q_l13, q_ret, q_bind, q_bindn, q_map, q_mapn, q_one, q_zero, q_evT, q_own, evNeg, startR, List.getElem?_cons_succ, List.getElem?_cons_zero, List.set_cons_succ, List.set_cons_zero, List.map_cons, List.map_nil, List.replicate, List.length_cons, List.length_nil, List.append_eq, List.nil_append, List.cons_append, Bool.and_true, Bool.true_and, Bool.and_false, Bool.false_and, Bool.not_true, Bool.not_false, if_true, if_false, reduceCtorEq, Nat.reduceSub, Nat.reduceAdd, Nat.reduceLeDiff, Bool.false_eq_true, Bool.or_false, Bool.false_or, ite_true, ite_false, n_add, lenOk_0, lenOk_1, lenOk_2, lenOk_3, lenOk_4, lenOk_5, lenOk_6, lenOk_7, lenOk_8, e0]
  rw [compGo_map (en2 := encB) (fun b => if decide (co side b < line) then some b else none)]
  · rfl
  · intro b _
    simp only [q_wipeR_1, q_wipeR_2, q_asg_1, q_asg_2, q_asg_3, q_asg_4, q_asgR_1, q_ownedArg_1, q_ownedArgs_1, q_ownedArgs_2, q_itemsOf_1, q_itemsOf_2, q_evE_1, q_evE_2, q_evE_3, q_evE_4, q_evE_5, q_evE_6, q_evE_7, q_evE_8, q_evE_9, q_evE_10, q_evE_11, q_evE_12, q_evE_13, q_evE_14, q_evE_15, q_evE_16, q_evE_17, q_evE_18, q_evE_19, q_evE_20, q_evEs_1, q_evEs_2, q_evP_1, q_evP_2, q_evC_1, q_evC_2, q_evI_1, q_evI_2, q_evRet_1, q_evS_1, q_evS_2, q_evS_3, q_evS_4, q_evS_5, q_evS_6, q_evS_7, q_evS_8, q_evS_9, q_evS_10, q_evS_11, q_evS_12, q_evS_13, q_evS_14, q_evS_15, q_evS_16, q_evSs_1, q_evSs_2, q_oa_0, q_rt_0, q_oa_1, q_rt_1, q_oa_2, q_rt_2, q_oa_3, q_rt_3, q_oa_4, q_rt_4, q_oa_5, q_rt_5, q_oa_6, q_rt_6, q_oa_7, q_rt_7, q_oa_8, q_rt_8, q_oa_9, q_rt_9, q_oa_10, q_rt_10, q_oa_11, q_rt_11, q_oa_12, q_rt_12, q_oa_13, q_rt_13, q_oa_14, q_rt_14, q_oa_15, q_rt_15, q_oa_16, q_rt_16, q_oa_17, q_rt_17, q_ar_0, q_ar_1, q_ar_2, asI_N, asI_i, q_l2, q_l3, q_l4, q_l5, q_l6, q_l7, q_l8, q_l9, q_l10, q_l11, q_l12, q_l13, q_ret, q_bind, q_bindn, q_map, q_mapn, q_one, q_zero, q_evT, q_own, evNeg, startR, List.getElem?_cons_succ, List.getElem?_cons_zero, List.set_cons_succ, List.set_cons_zero, List.map_cons, List.map_nil, List.replicate, List.length_cons, List.length_nil, List.append_eq, List.nil_append, List.cons_append, Bool.and_true, Bool.true_and, Bool.and_false, Bool.false_and, Bool.not_true, Bool.not_false, if_true, if_false, reduceCtorEq, Nat.reduceSub, Nat.reduceAdd, Nat.reduceLeDiff, Bool.false_eq_true, Bool.or_false, Bool.false_or, ite_true, ite_false, n_add, lenOk_0, lenOk_1, lenOk_2, lenOk_3, lenOk_4, lenOk_5, lenOk_6, lenOk_7, lenOk_8, hx0, hx1, ix_co h, n_lt]
    cases decide (co side b < line) <;> simp only [q_wipeR_1, q_wipeR_2, q_asg_1, q_asg_2, q_asg_3, q_asg_4, q_asgR_1, q_ownedArg_1, q_ownedArgs_1, q_ownedArgs_2, q_itemsOf_1, q_itemsOf_2, q_evE_1, q_evE_2, q_evE_3, q_evE_4, q_evE_5, q_evE_6, q_evE_7, q_evE_8, q_evE_9, q_evE_10, q_evE_11, q_evE_12, q_evE_13, q_evE_14, q_evE_15, q_evE_16, q_evE_17, q_evE_18, q_evE_19, q_evE_20, q_evEs_1, q_evEs_2, q_evP_1, q_evP_2, q_evC_1, q_evC_2, q_evI_1, q_evI_2, q_evRet_1, q_evS_1, q_evS_2, q_evS_3, q_evS_4, q_evS_5, q_evS_6, q_evS_7, q_evS_8, q_evS_9, q_evS_10, q_evS_11, q_evS_12, q_evS_13, q_evS_14, q_evS_15, q_evS_16, q_evSs_1, q_evSs_2, q_oa_0, q_rt_0, q_oa_1, q_rt_1, q_oa_2, q_rt_2, q_oa_3, q_rt_3, q_oa_4, q_rt_4, q_oa_5, q_rt_5, q_oa_6, q_rt_6, q_oa_7, q_rt_7, q_oa_8, q_rt_8, q_oa_9, q_rt_9, q_oa_10, q_rt_10, q_oa_11, q_rt_11, q_oa_12, q_rt_12, q_oa_13, q_rt_13, q_oa_14, q_rt_14, q_oa_15, q_rt_15, q_oa_16, q_rt_16, q_oa_17, q_rt_17, q_ar_0, q_ar_1, q_ar_2, asI_N, asI_i, q_l2, q_l3, q_l4, q_l5, q_l6, q_l7, q_l8, q_l9, q_l10, q_l11, q_l12, q_l13, q_ret, q_bind, q_bindn, q_map, q_mapn, q_one, q_zero, q_evT, q_own, evNeg, startR, List.getElem?_cons_succ, List.getElem?_cons_zero, List.set_cons_succ, List.set_cons_zero, List.map_cons, List.map_nil, List.replicate, List.length_cons, List.length_nil, List.append_eq, List.nil_append, List.cons_append, Bool.and_true, Bool.true_and, Bool.and_false, Bool.false_and, Bool.not_true, Bool.not_false, if_true, if_false, reduceCtorEq, Nat.reduceSub, Nat.reduceAdd, Nat.reduceLeDiff, Bool.false_eq_true, Bool.or_false, Bool.false_or, ite_true, ite_false, n_add, lenOk_0, lenOk_1, lenOk_2, lenOk_3, lenOk_4, lenOk_5, lenOk_6, lenOk_7, lenOk_8]
theorem lc_6 {s0 s1 s4 s5 s6 : Option R} {part : List B} {side line : Nat} (b : Bool) (h : side < 2) : evE ic__law_comes_6 b [s0, s1, some (false, encW part), some (false, encO (some (side, line))), s4, s5, s6] = some (true, encW (uppers side line part)) := by
  unfold ic__law_comes_6
  have e0 : itemsOf (encW part) = some (part.map encB) := rfl
  have hx0 : evIx (encO (some (side, line))) (N 0) = some (false, N side) := n_ixt _ 0
  have hx1 : evIx (encO (some (side, line))) (N 1) = some (false, N line) := n_ixt _ 1
  simp only [q_wipeR_1, q_wipeR_2, q_asg_1, q_asg_2, q_asg_3, q_asg_4, q_asgR_1, q_ownedArg_1, q_ownedArgs_1, q_ownedArgs_2, q_itemsOf_1, q_itemsOf_2, q_evE_1, q_evE_2, q_evE_3, q_evE_4, q_evE_5, q_evE_6, q_evE_7, q_evE_8, q_evE_9, q_evE_10, q_evE_11, q_evE_12, q_evE_13, q_evE_14, q_evE_15, q_evE_16, q_evE_17, q_evE_18, q_evE_19, q_evE_20, q_evEs_1, q_evEs_2, q_evP_1, q_evP_2, q_evC_1, q_evC_2, q_evI_1, q_evI_2, q_evRet_1, q_evS_1, q_evS_2, q_evS_3, q_evS_4, q_evS_5, q_evS_6, q_evS_7, q_evS_8, q_evS_9, q_evS_10, q_evS_11, q_evS_12, q_evS_13, q_evS_14, q_evS_15, q_evS_16, q_evSs_1, q_evSs_2, q_oa_0, q_rt_0, q_oa_1, q_rt_1, q_oa_2, q_rt_2, q_oa_3, q_rt_3, q_oa_4, q_rt_4, q_oa_5, q_rt_5, q_oa_6, q_rt_6, q_oa_7, q_rt_7, q_oa_8, q_rt_8, q_oa_9, q_rt_9, q_oa_10, q_rt_10, q_oa_11, q_rt_11, q_oa_12, q_rt_12, q_oa_13, q_rt_13, q_oa_14, q_rt_14, q_oa_15, q_rt_15, q_oa_16, q_rt_16, q_oa_17, q_rt_17, q_ar_0, q_ar_1, q_ar_2, asI_N, asI_i, q_l2, q_l3, q_l4, q_l5, q_l6, q_l7, q_l8, q_l9, q_l10, q_l11, q_l12, q_l13, q_ret, q_bind, q_bindn, q_map, q_mapn, q_one, q_zero, q_evT, q_own, evNeg, startR, List.getElem?_cons_succ, List.getElem?_cons_zero, List.set_cons_succ, List.set_cons_zero, List.map_cons, List.map_nil, List.replicate, List.length_cons, List.length_nil, List.append_eq, List.nil_append, List.cons_append, Bool.and_true, Bool.true_and, Bool.and_false, Bool.false_and, Bool.not_true, Bool.not_false, if_true, if_false, reduceCtorEq, Nat.reduceSub, Nat.reduceAdd, Nat.reduceLeDiff, Bool.false_eq_true, Bool.or_false, Bool.false_or, ite_true, ite_false, n_add, lenOk_0, lenOk_1, lenOk_2, lenOk_3, lenOk_4, lenOk_5, lenOk_6, lenOk_7, lenOk_8, e0]
  rw [compGo_map (en2 := encB) (fun b => if decide (line ≤ co side b) then some b else none)]
  · rfl
  · intro b _
    simp only [q_wipeR_1, q_wipeR_2, q_asg_1, q_asg_2, q_asg_3, q_asg_4, q_asgR_1, q_ownedArg_1, q_ownedArgs_1, q_ownedArgs_2, q_itemsOf_1, q_itemsOf_2, q_evE_1, q_evE_2, q_evE_3, q_evE_4, q_evE_5, q_evE_6, q_evE_7, q_evE_8, q_evE_9, q_evE_10, q_evE_11, q_evE_12, q_evE_13, q_evE_14, q_evE_15, q_evE_16, q_evE_17, q_evE_18, q_evE_19, q_evE_20, q_evEs_1, q_evEs_2, q_evP_1, q_evP_2, q_evC_1, q_evC_2, q_evI_1, q_evI_2, q_evRet_1, q_evS_1, q_evS_2, q_evS_3, q_evS_4, q_evS_5, q_evS_6, q_evS_7, q_evS_8, q_evS_9, q_evS_10, q_evS_11, q_evS_12, q_evS_13, q_evS_14, q_evS_15, q_evS_16, q_evSs_1, q_evSs_2, q_oa_0, q_rt_0, q_oa_1, q_rt_1, q_oa_2, q_rt_2, q_oa_3, q_rt_3, q_oa_4, q_rt_4, q_oa_5, q_rt_5, q_oa_6, q_rt_6, q_oa_7, q_rt_7, q_oa_8, q_rt_8, q_oa_9, q_rt_9, q_oa_10, q_rt_10, q_oa_11, q_rt_11, q_oa_12, q_rt_12, q_oa_13, q_rt_13, q_oa_14, q_rt_14, q_oa_15, q_rt_15, q_oa_16, q_rt_16, q_oa_17, q_rt_17, q_ar_0, q_ar_1, q_ar_2, asI_N, asI_i, q_l2, q_l3, q_l4, q_l5, q_l6, q_l7, q_l8, q_l9, q_l10, q_l11, q_l12, q_l13, q_ret, q_bind, q_bindn, q_map, q_mapn, q_one, q_zero, q_evT, q_own, evNeg, startR, List.getElem?_cons_succ, List.getElem?_cons_zero, List.set_cons_succ, List.set_cons_zero, List.map_cons, List.map_nil, List.replicate, List.length_cons, List.length_nil, List.append_eq, List.nil_append, List.cons_append, Bool.and_true, Bool.true_and, Bool.and_false, Bool.false_and, Bool.not_true, Bool.not_false, if_true, if_false, reduceCtorEq, Nat.reduceSub, Nat.reduceAdd, Nat.reduceLeDiff, Bool.false_eq_true, Bool.or_false, Bool.false_or, ite_true, ite_false, n_add, lenOk_0, lenOk_1, lenOk_2, lenOk_3, lenOk_4, lenOk_5, lenOk_6, lenOk_7, lenOk_8, hx0, hx1, ix_co h, n_ge]
    cases decide (line ≤ co side b) <;> simp only [q_wipeR_1, q_wipeR_2, q_asg_1, q_asg_2, q_asg_3, q_asg_4, q_asgR_1, q_ownedArg_1, q_ownedArgs_1, q_ownedArgs_2, q_itemsOf_1, q_itemsOf_2, q_evE_1, q_evE_2, q_evE_3, q_evE_4, q_evE_5, q_evE_6, q_evE_7, q_evE_8, q_evE_9, q_evE_10, q_evE_11, q_evE_12, q_evE_13, q_evE_14, q_evE_15, q_evE_16, q_evE_17, q_evE_18, q_evE_19, q_evE_20, q_evEs_1, q_evEs_2, q_evP_1, q_evP_2, q_evC_1, q_evC_2, q_evI_1, q_evI_2, q_evRet_1, q_evS_1, q_evS_2, q_evS_3, q_evS_4, q_evS_5, q_evS_6, q_evS_7, q_evS_8, q_evS_9, q_evS_10, q_evS_11, q_evS_12, q_evS_13, q_evS_14, q_evS_15, q_evS_16, q_evSs_1, q_evSs_2, q_oa_0, q_rt_0, q_oa_1, q_rt_1, q_oa_2, q_rt_2, q_oa_3, q_rt_3, q_oa_4, q_rt_4, q_oa_5, q_rt_5, q_oa_6, q_rt_6, q_oa_7, q_rt_7, q_oa_8, q_rt_8, q_oa_9, q_rt_9, q_oa_10, q_rt_10, q_oa_11, q_rt_11, q_oa_12, q_rt_12, q_oa_13, q_rt_13, q_oa_14, q_rt_14, q_oa_15, q_rt_15, q_oa_16, q_rt_16, q_oa_17, q_rt_17, q_ar_0, q_ar_1, q_ar_2, asI_N, asI_i, q_l2, q_l3, q_l4, q_l5, q_l6, q_l7, q_l8, q_l9, q_l10, q_l11, q_l12, q_l13, q_ret, q_bind, q_bindn, q_map, q_mapn, q_one, q_zero, q_evT, q_own, evNeg, startR, List.getElem?_cons_succ, List.getElem?_cons_zero, List.set_cons_succ, List.set_cons_zero, List.map_cons, List.map_nil, List.replicate, List.length_cons, List.length_nil, List.append_eq, List.nil_append, List.cons_append, Bool.and_true, Bool.true_and, Bool.and_false, Bool.false_and, Bool.not_true, Bool.not_false, if_true, if_false, reduceCtorEq, Nat.reduceSub, Nat.reduceAdd, Nat.reduceLeDiff, Bool.false_eq_true, Bool.or_false, Bool.false_or, ite_true, ite_false, n_add, lenOk_0, lenOk_1, lenOk_2, lenOk_3, lenOk_4, lenOk_5, lenOk_6, lenOk_7, lenOk_8]
theorem lc_step {s0 j2 j3 j4 j5 j6 : Option R} {part : List B} {st : List (List B)} (hp : part.length < 64) (hs : st.length ≤ 1000000) :
    (1 < part.length → lastClear part = none → blk FUEL ib__law_comes_7 [s0, some (true, .list ((part :: st).reverse.map encW)), j2, j3, j4, j5, j6] = some (.rt (false, .bool false))) ∧
    (∀ side line, 1 < part.length → lastClear part = some (side, line) → side < 2 → ∃ k2 k3 k4 k5 k6, blk FUEL ib__law_comes_7 [s0, some (true, .list ((part :: st).reverse.map encW)), j2, j3, j4, j5, j6] = some (.nx [s0, some (true, .list ((uppers side line part :: lowers side line part :: st).reverse.map encW)), k2, k3, k4, k5, k6])) ∧
    (¬ 1 < part.length → ∃ k2 k3 k4 k5 k6, blk FUEL ib__law_comes_7 [s0, some (true, .list ((part :: st).reverse.map encW)), j2, j3, j4, j5, j6] = some (.nx [s0, some (true, .list (st.reverse.map encW)), k2, k3, k4, k5, k6])) := by
  have e1 : ((part :: st).reverse).map encW = st.reverse.map encW ++ [encW part] := by
    rw [List.reverse_cons, List.map_append]; rfl
  obtain ⟨a5, ea⟩ := lc_side (s0 := s0) (s1 := some (true, .list (st.reverse.map encW))) (s6 := j6) (j5 := j5) (part := part) (side := 0) (c := none) (by decide) hp
  obtain ⟨b5, eb⟩ := lc_side (s0 := s0) (s1 := some (true, .list (st.reverse.map encW))) (s6 := j6) (j5 := a5) (part := part) (side := 1) (c := cutSide part 0 none) (by decide) hp
  have er : List.map N (List.range 2) = [N 0, N 1] := rfl
  have ef : forGo (.nm 4) (blk FUEL ib__law_comes_4) [N 0, N 1] [s0, some (true, .list (st.reverse.map encW)), some (false, encW part), some (false, .none), j4, j5, j6] = some (.nx [s0, some (true, .list (st.reverse.map encW)), some (false, encW part), some (false, encO (lastClear part)), sN 1, b5, j6]) := by
    rw [fr_nx (ρ1 := [s0, some (true, .list (st.reverse.map encW)), some (false, encW part), some (false, .none), sN 0, j5, j6]) rfl ea, fr_nx (ρ1 := [s0, some (true, .list (st.reverse.map encW)), some (false, encW part), some (false, encO (cutSide part 0 none)), sN 1, a5, j6]) rfl eb, fr_nil]
    rfl
  rw [e1]
  unfold blk ib__law_comes_7
  refine ⟨fun h1 h2 => ?_, fun side line h1 h2 h3 => ⟨some (false, encW part), some (false, encO (some (side, line))), sN 1, b5, j6, ?_⟩, fun h1 => ⟨some (false, encW part), some (false, encO (lastClear part)), sN 1, b5, j6, ?_⟩⟩
  · have hi : isNone (encO none) = true := rfl
    rw [h2] at ef
    simp only [q_wipeR_1, q_wipeR_2, q_asg_1, q_asg_2, q_asg_3, q_asg_4, q_asgR_1, q_ownedArg_1, q_ownedArgs_1, q_ownedArgs_2, q_itemsOf_1, q_itemsOf_2, q_evE_1, q_evE_2, q_evE_3, q_evE_4, q_evE_5, q_evE_6, q_evE_7, q_evE_8, q_evE_9, q_evE_10, q_evE_11, q_evE_12, q_evE_13, q_evE_14, q_evE_15, q_evE_16, q_evE_17, q_evE_18, q_evE_19, q_evE_20, q_evEs_1, q_evEs_2, q_evP_1, q_evP_2, q_evC_1, q_evC_2, q_evI_1, q_evI_2, q_evRet_1, q_evS_1, q_evS_2, q_evS_3, q_evS_4, q_evS_5, q_evS_6, q_evS_7, q_evS_8, q_evS_9, q_evS_10, q_evS_11, q_evS_12, q_evS_13, q_evS_14, q_evS_15, q_evS_16, q_evSs_1, q_evSs_2, q_oa_0, q_rt_0, q_oa_1, q_rt_1, q_oa_2, q_rt_2, q_oa_3, q_rt_3, q_oa_4, q_rt_4, q_oa_5, q_rt_5, q_oa_6, q_rt_6, q_oa_7, q_rt_7, q_oa_8, q_rt_8, q_oa_9, q_rt_9, q_oa_10, q_rt_10, q_oa_11, q_rt_11, q_oa_12, q_rt_12, q_oa_13, q_rt_13, q_oa_14, q_rt_14, q_oa_15, q_rt_15, q_oa_16, q_rt_16, q_oa_17, q_rt_17, q_ar_0, q_ar_1, q_ar_2, asI_N, asI_i, q_l2, q_l3, q_l4, q_l5, q_l6, q_l7, q_l8, q_l9, q_l10, q_l11, q_l12, q_l13, q_ret, q_bind, q_bindn, q_map, q_mapn, q_one, q_zero, q_evT, q_own, evNeg, startR, List.getElem?_cons_succ, List.getElem?_cons_zero, List.set_cons_succ, List.set_cons_zero, List.map_cons, List.map_nil, List.replicate, List.length_cons, List.length_nil, List.append_eq, List.nil_append, List.cons_append, Bool.and_true, Bool.true_and, Bool.and_false, Bool.false_and, Bool.not_true, Bool.not_false, if_true, if_false, reduceCtorEq, Nat.reduceSub, Nat.reduceAdd, Nat.reduceLeDiff, Bool.false_eq_true, Bool.or_false, Bool.false_or, ite_true, ite_false, n_add, lenOk_0, lenOk_1, lenOk_2, lenOk_3, lenOk_4, lenOk_5, lenOk_6, lenOk_7, lenOk_8, List.getLast?_concat, List.dropLast_concat, n_rng1 (show 2 ≤ 1000000 by decide), er, ef, n_lenW, n_gt, h1, decide_true, q_isn, hi]
  · have hi : isNone (encO (some (side, line))) = false := rfl
    rw [h2] at ef
    simp only [q_wipeR_1, q_wipeR_2, q_asg_1, q_asg_2, q_asg_3, q_asg_4, q_asgR_1, q_ownedArg_1, q_ownedArgs_1, q_ownedArgs_2, q_itemsOf_1, q_itemsOf_2, q_evE_1, q_evE_2, q_evE_3, q_evE_4, q_evE_5, q_evE_6, q_evE_7, q_evE_8, q_evE_9, q_evE_10, q_evE_11, q_evE_12, q_evE_13, q_evE_14, q_evE_15, q_evE_16, q_evE_17, q_evE_18, q_evE_19, q_evE_20, q_evEs_1, q_evEs_2, q_evP_1, q_evP_2, q_evC_1, q_evC_2, q_evI_1, q_evI_2, q_evRet_1, q_evS_1, q_evS_2, q_evS_3, q_evS_4, q_evS_5, q_evS_6, q_evS_7, q_evS_8, q_evS_9, q_evS_10, q_evS_11, q_evS_12, q_evS_13, q_evS_14, q_evS_15, q_evS_16, q_evSs_1, q_evSs_2, q_oa_0, q_rt_0, q_oa_1, q_rt_1, q_oa_2, q_rt_2, q_oa_3, q_rt_3, q_oa_4, q_rt_4, q_oa_5, q_rt_5, q_oa_6, q_rt_6, q_oa_7, q_rt_7, q_oa_8, q_rt_8, q_oa_9, q_rt_9, q_oa_10, q_rt_10, q_oa_11, q_rt_11, q_oa_12, q_rt_12, q_oa_13, q_rt_13, q_oa_14, q_rt_14, q_oa_15, q_rt_15, q_oa_16, q_rt_16, q_oa_17, q_rt_17, q_ar_0, q_ar_1, q_ar_2, asI_N, asI_i, q_l2, q_l3, q_l4, q_l5, q_l6, q_l7, q_l8, q_l9, q_l10, q_l11, q_l12, q_l13, q_ret, q_bind, q_bindn, q_map, q_mapn, q_one, q_zero, q_evT, q_own, evNeg, startR, List.getElem?_cons_succ, List.getElem?_cons_zero, List.set_cons_succ, List.set_cons_zero, List.map_cons, List.map_nil, List.replicate, List.length_cons, List.length_nil, List.append_eq, List.nil_append, List.cons_append, Bool.and_true, Bool.true_and, Bool.and_false, Bool.false_and, Bool.not_true, Bool.not_false, if_true, if_false, reduceCtorEq, Nat.reduceSub, Nat.reduceAdd, Nat.reduceLeDiff, Bool.false_eq_true, Bool.or_false, Bool.false_or, ite_true, ite_false, n_add, lenOk_0, lenOk_1, lenOk_2, lenOk_3, lenOk_4, lenOk_5, lenOk_6, lenOk_7, lenOk_8, List.getLast?_concat, List.dropLast_concat, n_rng1 (show 2 ≤ 1000000 by decide), er, ef, n_lenW, n_gt, h1, decide_true, q_isn, hi, lc_5 _ h3, lc_6 _ h3, evBin]
    rw [if_pos (lenOk_of (by simp only [List.length_map, List.length_reverse, List.length_cons, List.length_nil]; omega))]
    simp only [q_wipeR_1, q_wipeR_2, q_asg_1, q_asg_2, q_asg_3, q_asg_4, q_asgR_1, q_ownedArg_1, q_ownedArgs_1, q_ownedArgs_2, q_itemsOf_1, q_itemsOf_2, q_evE_1, q_evE_2, q_evE_3, q_evE_4, q_evE_5, q_evE_6, q_evE_7, q_evE_8, q_evE_9, q_evE_10, q_evE_11, q_evE_12, q_evE_13, q_evE_14, q_evE_15, q_evE_16, q_evE_17, q_evE_18, q_evE_19, q_evE_20, q_evEs_1, q_evEs_2, q_evP_1, q_evP_2, q_evC_1, q_evC_2, q_evI_1, q_evI_2, q_evRet_1, q_evS_1, q_evS_2, q_evS_3, q_evS_4, q_evS_5, q_evS_6, q_evS_7, q_evS_8, q_evS_9, q_evS_10, q_evS_11, q_evS_12, q_evS_13, q_evS_14, q_evS_15, q_evS_16, q_evSs_1, q_evSs_2, q_oa_0, q_rt_0, q_oa_1, q_rt_1, q_oa_2, q_rt_2, q_oa_3, q_rt_3, q_oa_4, q_rt_4, q_oa_5, q_rt_5, q_oa_6, q_rt_6, q_oa_7, q_rt_7, q_oa_8, q_rt_8, q_oa_9, q_rt_9, q_oa_10, q_rt_10, q_oa_11, q_rt_11, q_oa_12, q_rt_12, q_oa_13, q_rt_13, q_oa_14, q_rt_14, q_oa_15, q_rt_15, q_oa_16, q_rt_16, q_oa_17, q_rt_17, q_ar_0, q_ar_1, q_ar_2, asI_N, asI_i, q_l2, q_l3, q_l4, q_l5, q_l6, q_l7, q_l8, q_l9, q_l10, q_l11, q_l12, q_l13, q_ret, q_bind, q_bindn, q_map, q_mapn, q_one, q_zero, q_evT, q_own, evNeg, startR, List.getElem?_cons_succ, List.getElem?_cons_zero, List.set_cons_succ, List.set_cons_zero, List.map_cons, List.map_nil, List.replicate, List.length_cons, List.length_nil, List.append_eq, List.nil_append, List.cons_append, Bool.and_true, Bool.true_and, Bool.and_false, Bool.false_and, Bool.not_true, Bool.not_false, if_true, if_false, reduceCtorEq, Nat.reduceSub, Nat.reduceAdd, Nat.reduceLeDiff, Bool.false_eq_true, Bool.or_false, Bool.false_or, ite_true, ite_false, n_add, lenOk_0, lenOk_1, lenOk_2, lenOk_3, lenOk_4, lenOk_5, lenOk_6, lenOk_7, lenOk_8, List.reverse_cons, List.map_append, List.append_assoc]
  · simp only [q_wipeR_1, q_wipeR_2, q_asg_1, q_asg_2, q_asg_3, q_asg_4, q_asgR_1, q_ownedArg_1, q_ownedArgs_1, q_ownedArgs_2, q_itemsOf_1, q_itemsOf_2, q_evE_1, q_evE_2, q_evE_3, q_evE_4, q_evE_5, q_evE_6, q_evE_7, q_evE_8, q_evE_9, q_evE_10, q_evE_11, q_evE_12, q_evE_13, q_evE_14, q_evE_15, q_evE_16, q_evE_17, q_evE_18, q_evE_19, q_evE_20, q_evEs_1, q_evEs_2, q_evP_1, q_evP_2, q_evC_1, q_evC_2, q_evI_1, q_evI_2, q_evRet_1, q_evS_1, q_evS_2, q_evS_3, q_evS_4, q_evS_5, q_evS_6, q_evS_7, q_evS_8, q_evS_9, q_evS_10, q_evS_11, q_evS_12, q_evS_13, q_evS_14, q_evS_15, q_evS_16, q_evSs_1, q_evSs_2, q_oa_0, q_rt_0, q_oa_1, q_rt_1, q_oa_2, q_rt_2, q_oa_3, q_rt_3, q_oa_4, q_rt_4, q_oa_5, q_rt_5, q_oa_6, q_rt_6, q_oa_7, q_rt_7, q_oa_8, q_rt_8, q_oa_9, q_rt_9, q_oa_10, q_rt_10, q_oa_11, q_rt_11, q_oa_12, q_rt_12, q_oa_13, q_rt_13, q_oa_14, q_rt_14, q_oa_15, q_rt_15, q_oa_16, q_rt_16, q_oa_17, q_rt_17, q_ar_0, q_ar_1, q_ar_2, asI_N, asI_i, q_l2, q_l3, q_l4, q_l5, q_l6, q_l7, q_l8, q_l9, q_l10, q_l11, q_l12, q_l13, q_ret, q_bind, q_bindn, q_map, q_mapn, q_one, q_zero, q_evT, q_own, evNeg, startR, List.getElem?_cons_succ, List.getElem?_cons_zero, List.set_cons_succ, List.set_cons_zero, List.map_cons, List.map_nil, List.replicate, List.length_cons, List.length_nil, List.append_eq, List.nil_append, List.cons_append, Bool.and_true, Bool.true_and, Bool.and_false, Bool.false_and, Bool.not_true, Bool.not_false, if_true, if_false, reduceCtorEq, Nat.reduceSub, Nat.reduceAdd, Nat.reduceLeDiff, Bool.false_eq_true, Bool.or_false, Bool.false_or, ite_true, ite_false, n_add, lenOk_0, lenOk_1, lenOk_2, lenOk_3, lenOk_4, lenOk_5, lenOk_6, lenOk_7, lenOk_8, List.getLast?_concat, List.dropLast_concat, n_rng1 (show 2 ≤ 1000000 by decide), er, ef, n_lenW, n_gt, h1, decide_false]
theorem lc_test {s0 s2 s3 s4 s5 s6 : Option R} {st : List (List B)} : tst iw__law_comes_7 [s0, some (true, .list (st.map encW)), s2, s3, s4, s5, s6] = some (!st.isEmpty) := by
  have h := n_neNil (ds := st.map encW) ((dk_list (k := 2) (dk_map dk_W)).dok (by decide))
  unfold tst iw__law_comes_7
  simp only [q_wipeR_1, q_wipeR_2, q_asg_1, q_asg_2, q_asg_3, q_asg_4, q_asgR_1, q_ownedArg_1, q_ownedArgs_1, q_ownedArgs_2, q_itemsOf_1, q_itemsOf_2, q_evE_1, q_evE_2, q_evE_3, q_evE_4, q_evE_5, q_evE_6, q_evE_7, q_evE_8, q_evE_9, q_evE_10, q_evE_11, q_evE_12, q_evE_13, q_evE_14, q_evE_15, q_evE_16, q_evE_17, q_evE_18, q_evE_19, q_evE_20, q_evEs_1, q_evEs_2, q_evP_1, q_evP_2, q_evC_1, q_evC_2, q_evI_1, q_evI_2, q_evRet_1, q_evS_1, q_evS_2, q_evS_3, q_evS_4, q_evS_5, q_evS_6, q_evS_7, q_evS_8, q_evS_9, q_evS_10, q_evS_11, q_evS_12, q_evS_13, q_evS_14, q_evS_15, q_evS_16, q_evSs_1, q_evSs_2, q_oa_0, q_rt_0, q_oa_1, q_rt_1, q_oa_2, q_rt_2, q_oa_3, q_rt_3, q_oa_4, q_rt_4, q_oa_5, q_rt_5, q_oa_6, q_rt_6, q_oa_7, q_rt_7, q_oa_8, q_rt_8, q_oa_9, q_rt_9, q_oa_10, q_rt_10, q_oa_11, q_rt_11, q_oa_12, q_rt_12, q_oa_13, q_rt_13, q_oa_14, q_rt_14, q_oa_15, q_rt_15, q_oa_16, q_rt_16, q_oa_17, q_rt_17, q_ar_0, q_ar_1, q_ar_2, asI_N, asI_i, q_l2, q_l3, q_l4, q_l5, q_l6, q_l7, q_l8, q_l9, q_l10, q_l11, q_l12, q_l13, q_ret, q_bind, q_bindn, q_map, q_mapn, q_one, q_zero, q_evT, q_own, evNeg, startR, List.getElem?_cons_succ, List.getElem?_cons_zero, List.set_cons_succ, List.set_cons_zero, List.map_cons, List.map_nil, List.replicate, List.length_cons, List.length_nil, List.append_eq, List.nil_append, List.cons_append, Bool.and_true, Bool.true_and, Bool.and_false, Bool.false_and, Bool.not_true, Bool.not_false, if_true, if_false, reduceCtorEq, Nat.reduceSub, Nat.reduceAdd, Nat.reduceLeDiff, Bool.false_eq_true, Bool.or_false, Bool.false_or, ite_true, ite_false, n_add, lenOk_0, lenOk_1, lenOk_2, lenOk_3, lenOk_4, lenOk_5, lenOk_6, lenOk_7, lenOk_8, h]
  cases st <;> rfl
theorem lc_loop : ∀ (k : Nat) (st : List (List B)) (r : Bool) (fuel : Nat) (s0 j2 j3 j4 j5 j6 : Option R), lcGo k st = some r → k ≤ fuel → st.length + 2 * k ≤ 1000000 → (∀ w ∈ st, w.length < 64) →
    (r = false ∧ whileGo (tst iw__law_comes_7) (blk FUEL ib__law_comes_7) fuel [s0, some (true, .list (st.reverse.map encW)), j2, j3, j4, j5, j6] = some (.rt (false, .bool false))) ∨
    (r = true ∧ ∃ k1 k2 k3 k4 k5 k6, whileGo (tst iw__law_comes_7) (blk FUEL ib__law_comes_7) fuel [s0, some (true, .list (st.reverse.map encW)), j2, j3, j4, j5, j6] = some (.nx [s0, k1, k2, k3, k4, k5, k6]))
  | 0, st, r, fuel, s0, j2, j3, j4, j5, j6, h, _, _, _ => by cases h
  | k + 1, [], r, fuel, s0, j2, j3, j4, j5, j6, h, hk, _, _ => by
    obtain ⟨f, rfl⟩ : ∃ f, fuel = f + 1 := ⟨fuel - 1, by omega⟩
    cases h
    exact .inr ⟨rfl, some (true, .list []), j2, j3, j4, j5, j6, wh_false (lc_test (st := []))⟩
  | k + 1, part :: st, r, fuel, s0, j2, j3, j4, j5, j6, h, hk, hs, hw => by
    obtain ⟨f, rfl⟩ : ∃ f, fuel = f + 1 := ⟨fuel - 1, by omega⟩
    rw [List.length_cons] at hs
    have hp := hw part List.mem_cons_self
    have e0 : (!(part :: st).reverse.isEmpty) = true := by rw [List.reverse_cons]; simp
    obtain ⟨s1, s2, s3⟩ := lc_step (s0 := s0) (j2 := j2) (j3 := j3) (j4 := j4) (j5 := j5) (j6 := j6) (part := part) (st := st) hp (by omega)
    rw [lcGo] at h
    by_cases hc : 1 < part.length
    · rw [if_pos hc] at h
      cases hf : lastClear part with
      | none =>
        rw [hf] at h
        cases h
        exact .inl ⟨rfl, wh_rt (lc_test.trans (congrArg some e0)) (s1 hc hf)⟩
      | some p =>
        obtain ⟨side, line⟩ := p
        rw [hf] at h
        have h : (if side < 2 then lcGo k (uppers side line part :: lowers side line part :: st) else none) = some r := h
        by_cases h2 : side < 2
        · rw [if_pos h2] at h
          have h1 := keepIf_len (fun b => decide (co side b < line)) part
          have h3 := keepIf_len (fun b => decide (line ≤ co side b)) part
          obtain ⟨a2, a3, a4, a5, a6, es⟩ := s2 side line hc hf h2
          have ih := lc_loop k _ r f s0 a2 a3 a4 a5 a6 h (by omega) (by simp only [List.length_cons]; omega) fun w hm => by
            rcases List.mem_cons.mp hm with rfl | hm
            · exact Nat.lt_of_le_of_lt h3 hp
            · rcases List.mem_cons.mp hm with rfl | hm
              · exact Nat.lt_of_le_of_lt h1 hp
              · exact hw w (List.mem_cons_of_mem _ hm)
          have es := wh_true (n := f) (lc_test.trans (congrArg some e0)) es
          rcases ih with ⟨a, b⟩ | ⟨a, k1, k2, k3, k4, k5, k6, b⟩
          · exact .inl ⟨a, es.trans b⟩
          · exact .inr ⟨a, k1, k2, k3, k4, k5, k6, es.trans b⟩
        · rw [if_neg h2] at h; cases h
    · rw [if_neg hc] at h
      obtain ⟨a2, a3, a4, a5, a6, es⟩ := s3 hc
      have ih := lc_loop k _ r f s0 a2 a3 a4 a5 a6 h (by omega) (by omega) fun w hm => hw w (List.mem_cons_of_mem _ hm)
      have es := wh_true (n := f) (lc_test.trans (congrArg some e0)) es
      rcases ih with ⟨a, b⟩ | ⟨a, k1, k2, k3, k4, k5, k6, b⟩
      · exact .inl ⟨a, es.trans b⟩
      · exact .inr ⟨a, k1, k2, k3, k4, k5, k6, es.trans b⟩
def comesL (way : List B) : Option Bool := if ordB way && decide (way.length < 64) then lcGo 60 [way] else none
theorem law_comes_is {way : List B} {r : Bool} (h : comesL way = some r) : f__law_comes [encW way] = some (false, .bool r) := by
  unfold comesL at h
  split at h
  case isFalse => cases h
  rename_i hc
  rw [Bool.and_eq_true, decide_eq_true_eq] at hc
  have ih := lc_loop 60 [way] r FUEL (some (false, encW way)) none none none none none h (by decide) (by rw [List.length_singleton]; decide) fun w hw => by rw [List.mem_singleton.mp hw]; exact hc.2
  have e1 : List.map encW [way].reverse = [encW way] := rfl
  rw [e1] at ih
  unfold f__law_comes evDef ir__law_comes
  simp only [q_wipeR_1, q_wipeR_2, q_asg_1, q_asg_2, q_asg_3, q_asg_4, q_asgR_1, q_ownedArg_1, q_ownedArgs_1, q_ownedArgs_2, q_itemsOf_1, q_itemsOf_2, q_evE_1, q_evE_2, q_evE_3, q_evE_4, q_evE_5, q_evE_6, q_evE_7, q_evE_8, q_evE_9, q_evE_10, q_evE_11, q_evE_12, q_evE_13, q_evE_14, q_evE_15, q_evE_16, q_evE_17, q_evE_18, q_evE_19, q_evE_20, q_evEs_1, q_evEs_2, q_evP_1, q_evP_2, q_evC_1, q_evC_2, q_evI_1, q_evI_2, q_evRet_1, q_evS_1, q_evS_2, q_evS_3, q_evS_4, q_evS_5, q_evS_6, q_evS_7, q_evS_8, q_evS_9, q_evS_10, q_evS_11, q_evS_12, q_evS_13, q_evS_14, q_evS_15, q_evS_16, q_evSs_1, q_evSs_2, q_oa_0, q_rt_0, q_oa_1, q_rt_1, q_oa_2, q_rt_2, q_oa_3, q_rt_3, q_oa_4, q_rt_4, q_oa_5, q_rt_5, q_oa_6, q_rt_6, q_oa_7, q_rt_7, q_oa_8, q_rt_8, q_oa_9, q_rt_9, q_oa_10, q_rt_10, q_oa_11, q_rt_11, q_oa_12, q_rt_12, q_oa_13, q_rt_13, q_oa_14, q_rt_14, q_oa_15, q_rt_15, q_oa_16, q_rt_16, q_oa_17, q_rt_17, q_ar_0, q_ar_1, q_ar_2, asI_N, asI_i, q_l2, q_l3, q_l4, q_l5, q_l6, q_l7, q_l8, q_l9, q_l10, q_l11, q_l12, q_l13, q_ret, q_bind, q_bindn, q_map, q_mapn, q_one, q_zero, q_evT, q_own, evNeg, startR, List.getElem?_cons_succ, List.getElem?_cons_zero, List.set_cons_succ, List.set_cons_zero, List.map_cons, List.map_nil, List.replicate, List.length_cons, List.length_nil, List.append_eq, List.nil_append, List.cons_append, Bool.and_true, Bool.true_and, Bool.and_false, Bool.false_and, Bool.not_true, Bool.not_false, if_true, if_false, reduceCtorEq, Nat.reduceSub, Nat.reduceAdd, Nat.reduceLeDiff, Bool.false_eq_true, Bool.or_false, Bool.false_or, ite_true, ite_false, n_add, lenOk_0, lenOk_1, lenOk_2, lenOk_3, lenOk_4, lenOk_5, lenOk_6, lenOk_7, lenOk_8]
  rcases ih with ⟨rfl, e⟩ | ⟨rfl, k1, k2, k3, k4, k5, k6, e⟩ <;> rw [e] <;> simp only [q_wipeR_1, q_wipeR_2, q_asg_1, q_asg_2, q_asg_3, q_asg_4, q_asgR_1, q_ownedArg_1, q_ownedArgs_1, q_ownedArgs_2, q_itemsOf_1, q_itemsOf_2, q_evE_1, q_evE_2, q_evE_3, q_evE_4, q_evE_5, q_evE_6, q_evE_7, q_evE_8, q_evE_9, q_evE_10, q_evE_11, q_evE_12, q_evE_13, q_evE_14, q_evE_15, q_evE_16, q_evE_17, q_evE_18, q_evE_19, q_evE_20, q_evEs_1, q_evEs_2, q_evP_1, q_evP_2, q_evC_1, q_evC_2, q_evI_1, q_evI_2, q_evRet_1, q_evS_1, q_evS_2, q_evS_3, q_evS_4, q_evS_5, q_evS_6, q_evS_7, q_evS_8, q_evS_9, q_evS_10, q_evS_11, q_evS_12, q_evS_13, q_evS_14, q_evS_15, q_evS_16, q_evSs_1, q_evSs_2, q_oa_0, q_rt_0, q_oa_1, q_rt_1, q_oa_2, q_rt_2, q_oa_3, q_rt_3, q_oa_4, q_rt_4, q_oa_5, q_rt_5, q_oa_6, q_rt_6, q_oa_7, q_rt_7, q_oa_8, q_rt_8, q_oa_9, q_rt_9, q_oa_10, q_rt_10, q_oa_11, q_rt_11, q_oa_12, q_rt_12, q_oa_13, q_rt_13, q_oa_14, q_rt_14, q_oa_15, q_rt_15, q_oa_16, q_rt_16, q_oa_17, q_rt_17, q_ar_0, q_ar_1, q_ar_2, asI_N, asI_i, q_l2, q_l3, q_l4, q_l5, q_l6, q_l7, q_l8, q_l9, q_l10, q_l11, q_l12, q_l13, q_ret, q_bind, q_bindn, q_map, q_mapn, q_one, q_zero, q_evT, q_own, evNeg, startR, List.getElem?_cons_succ, List.getElem?_cons_zero, List.set_cons_succ, List.set_cons_zero, List.map_cons, List.map_nil, List.replicate, List.length_cons, List.length_nil, List.append_eq, List.nil_append, List.cons_append, Bool.and_true, Bool.true_and, Bool.and_false, Bool.false_and, Bool.not_true, Bool.not_false, if_true, if_false, reduceCtorEq, Nat.reduceSub, Nat.reduceAdd, Nat.reduceLeDiff, Bool.false_eq_true, Bool.or_false, Bool.false_or, ite_true, ite_false, n_add, lenOk_0, lenOk_1, lenOk_2, lenOk_3, lenOk_4, lenOk_5, lenOk_6, lenOk_7, lenOk_8]
/-- the law's count, and how many ways there are -/
def cntL (m n : Nat) : Option (Nat × Nat) := (waysL m n).bind fun r => (keepO comesL r).map fun c => (c, r.length)
theorem keepO_all {f : List B → Option Bool} : ∀ {l : List (List B)} {n : Nat}, keepO f l = some n → ∀ w ∈ l, ∃ b, f w = some b
  | [], n, _, w, hw => by cases hw
  | v :: l, n, h, w, hw => by
    rw [keepO] at h
    cases hv : f v with
    | none => rw [hv] at h; cases h
    | some b =>
      rw [hv] at h
      cases hk : keepO f l with
      | none => rw [hk] at h; cases h
      | some k =>
        rcases List.mem_cons.mp hw with rfl | hw
        · exact ⟨b, hv⟩
        · exact keepO_all hk w hw
/-- which of the data are kept -/
theorem compGo_count {F : PyData → Option (Option PyData)} : ∀ (L : List PyData), (∀ d ∈ L, ∃ o, F d = some o) → ∃ ys, compGo F L = some ys ∧ ys.length = L.countP (fun d => match F d with | some (some _) => true | _ => false)
  | [], _ => ⟨[], rfl, rfl⟩
  | d :: L, h => by
    obtain ⟨ys, e1, e2⟩ := compGo_count L fun x hx => h x (List.mem_cons_of_mem _ hx)
    obtain ⟨o, e3⟩ := h d List.mem_cons_self
    rw [compGo, e3]
    cases o with
    | none => exact ⟨ys, e1, by rw [List.countP_cons_of_neg (by rw [e3]; simp), e2]⟩
    | some y => exact ⟨y :: ys, by show (match compGo F L with | none => none | some ys => some (y :: ys)) = _; rw [e1], by rw [List.countP_cons_of_pos (by rw [e3]), List.length_cons, e2]⟩
end K88

set_option Elab.async false
set_option linter.all false
set_option maxRecDepth 100000
set_option maxHeartbeats 4000000
namespace K88
open PySem L2 PV
theorem is_number_is (k : Nat) : f__law_is_number [N k] = some (false, .bool true) := by
  have h1 : evBI .isInt [N k] = some (false, .bool true) := rfl
  have h2 : evBI .isBool [N k] = some (false, .bool false) := rfl
  unfold f__law_is_number evDef ir__law_is_number
  simp only [q_wipeR_1, q_wipeR_2, q_asg_1, q_asg_2, q_asg_3, q_asg_4, q_asgR_1, q_ownedArg_1, q_ownedArgs_1, q_ownedArgs_2, q_itemsOf_1, q_itemsOf_2, q_evE_1, q_evE_2, q_evE_3, q_evE_4, q_evE_5, q_evE_6, q_evE_7, q_evE_8, q_evE_9, q_evE_10, q_evE_11, q_evE_12, q_evE_13, q_evE_14, q_evE_15, q_evE_16, q_evE_17, q_evE_18, q_evE_19, q_evE_20, q_evEs_1, q_evEs_2, q_evP_1, q_evP_2, q_evC_1, q_evC_2, q_evI_1, q_evI_2, q_evRet_1, q_evS_1, q_evS_2, q_evS_3, q_evS_4, q_evS_5, q_evS_6, q_evS_7, q_evS_8, q_evS_9, q_evS_10, q_evS_11, q_evS_12, q_evS_13, q_evS_14, q_evS_15, q_evS_16, q_evSs_1, q_evSs_2, q_oa_0, q_rt_0, q_oa_1, q_rt_1, q_oa_2, q_rt_2, q_oa_3, q_rt_3, q_oa_4, q_rt_4, q_oa_5, q_rt_5, q_oa_6, q_rt_6, q_oa_7, q_rt_7, q_oa_8, q_rt_8, q_oa_9, q_rt_9, q_oa_10, q_rt_10, q_oa_11, q_rt_11, q_oa_12, q_rt_12, q_oa_13, q_rt_13, q_oa_14, q_rt_14, q_oa_15, q_rt_15, q_oa_16, q_rt_16, q_oa_17, q_rt_17, q_ar_0, q_ar_1, q_ar_2, asI_N, asI_i, q_l2, q_l3, q_l4, q_l5, q_l6, q_l7, q_l8, q_l9, q_l10, q_l11, q_l12, q_l13, q_ret, q_bind, q_bindn, q_map, q_mapn, q_one, q_zero, q_evT, q_own, evNeg, startR, List.getElem?_cons_succ, List.getElem?_cons_zero, List.set_cons_succ, List.set_cons_zero, List.map_cons, List.map_nil, List.replicate, List.length_cons, List.length_nil, List.append_eq, List.nil_append, List.cons_append, Bool.and_true, Bool.true_and, Bool.and_false, Bool.false_and, Bool.not_true, Bool.not_false, if_true, if_false, reduceCtorEq, Nat.reduceSub, Nat.reduceAdd, Nat.reduceLeDiff, Bool.false_eq_true, Bool.or_false, Bool.false_or, ite_true, ite_false, n_add, lenOk_0, lenOk_1, lenOk_2, lenOk_3, lenOk_4, lenOk_5, lenOk_6, lenOk_7, lenOk_8, h1, h2]
theorem n_min2 (a b : Nat) : evBI .min [N a, N b] = some (false, N (if b < a then b else a)) := by
  show some (false, PyData.int (if (b : Int) < (a : Int) then (b : Int) else (a : Int))) = _
  by_cases h : b < a
  · rw [if_pos h, if_pos (by omega)]; rfl
  · rw [if_neg h, if_neg (by omega)]; rfl
theorem told_is {m n t due total : Nat} {L : List PyData} {r : List (List B)} (hm0 : 0 < m) (hm : m ≤ 20) (hn : n ≤ 20) (h1 : cntP m n = some t) (h2 : keepO comesL r = some due) (h3 : r.length = total) (hL : L.Perm (r.map encW)) :
    f__law_told [N m, N n, .list L] = some (false, .bool (decide (t = due) && (decide (2 < if n < m then n else m) || decide (due = total)))) := by
  have hlen : L.length = total := by rw [hL.length_eq, List.length_map, h3]
  have ec : ∃ ys, evE ic__law_told_1 true [sN m, sN n, some (false, .list L), none, none, none] = some (true, .list ys) ∧ ys.length = due := by
    unfold ic__law_told_1
    simp only [q_wipeR_1, q_wipeR_2, q_asg_1, q_asg_2, q_asg_3, q_asg_4, q_asgR_1, q_ownedArg_1, q_ownedArgs_1, q_ownedArgs_2, q_itemsOf_1, q_itemsOf_2, q_evE_1, q_evE_2, q_evE_3, q_evE_4, q_evE_5, q_evE_6, q_evE_7, q_evE_8, q_evE_9, q_evE_10, q_evE_11, q_evE_12, q_evE_13, q_evE_14, q_evE_15, q_evE_16, q_evE_17, q_evE_18, q_evE_19, q_evE_20, q_evEs_1, q_evEs_2, q_evP_1, q_evP_2, q_evC_1, q_evC_2, q_evI_1, q_evI_2, q_evRet_1, q_evS_1, q_evS_2, q_evS_3, q_evS_4, q_evS_5, q_evS_6, q_evS_7, q_evS_8, q_evS_9, q_evS_10, q_evS_11, q_evS_12, q_evS_13, q_evS_14, q_evS_15, q_evS_16, q_evSs_1, q_evSs_2, q_oa_0, q_rt_0, q_oa_1, q_rt_1, q_oa_2, q_rt_2, q_oa_3, q_rt_3, q_oa_4, q_rt_4, q_oa_5, q_rt_5, q_oa_6, q_rt_6, q_oa_7, q_rt_7, q_oa_8, q_rt_8, q_oa_9, q_rt_9, q_oa_10, q_rt_10, q_oa_11, q_rt_11, q_oa_12, q_rt_12, q_oa_13, q_rt_13, q_oa_14, q_rt_14, q_oa_15, q_rt_15, q_oa_16, q_rt_16, q_oa_17, q_rt_17, q_ar_0, q_ar_1, q_ar_2, asI_N, asI_i, q_l2, q_l3, q_l4, q_l5, q_l6, q_l7, q_l8, q_l9, q_l10, q_l11, q_l12, q_l13, q_ret, q_bind, q_bindn, q_map, q_mapn, q_one, q_zero, q_evT, q_own, evNeg, startR, List.getElem?_cons_succ, List.getElem?_cons_zero, List.set_cons_succ, List.set_cons_zero, List.map_cons, List.map_nil, List.replicate, List.length_cons, List.length_nil, List.append_eq, List.nil_append, List.cons_append, Bool.and_true, Bool.true_and, Bool.and_false, Bool.false_and, Bool.not_true, Bool.not_false, if_true, if_false, reduceCtorEq, Nat.reduceSub, Nat.reduceAdd, Nat.reduceLeDiff, Bool.false_eq_true, Bool.or_false, Bool.false_or, ite_true, ite_false, n_add, lenOk_0, lenOk_1, lenOk_2, lenOk_3, lenOk_4, lenOk_5, lenOk_6, lenOk_7, lenOk_8]
    generalize hF : (fun d => (asg (.nm 4) d [sN m, sN n, some (false, .list L), none, none, none]).bind fun ρ2 => (evC (.yes (.call f__law_comes (.cons (.v 4) .nil))) ρ2).bind fun k => match k with
      | false => some none
      | true => (evE (.v 4) false ρ2).map fun r => some r.2) = F
    have hF2 : ∀ w b, comesL w = some b → F (encW w) = some (if b then some (encW w) else none) := fun w b hb => by
      rw [← hF]
      simp only [q_wipeR_1, q_wipeR_2, q_asg_1, q_asg_2, q_asg_3, q_asg_4, q_asgR_1, q_ownedArg_1, q_ownedArgs_1, q_ownedArgs_2, q_itemsOf_1, q_itemsOf_2, q_evE_1, q_evE_2, q_evE_3, q_evE_4, q_evE_5, q_evE_6, q_evE_7, q_evE_8, q_evE_9, q_evE_10, q_evE_11, q_evE_12, q_evE_13, q_evE_14, q_evE_15, q_evE_16, q_evE_17, q_evE_18, q_evE_19, q_evE_20, q_evEs_1, q_evEs_2, q_evP_1, q_evP_2, q_evC_1, q_evC_2, q_evI_1, q_evI_2, q_evRet_1, q_evS_1, q_evS_2, q_evS_3, q_evS_4, q_evS_5, q_evS_6, q_evS_7, q_evS_8, q_evS_9, q_evS_10, q_evS_11, q_evS_12, q_evS_13, q_evS_14, q_evS_15, q_evS_16, q_evSs_1, q_evSs_2, q_oa_0, q_rt_0, q_oa_1, q_rt_1, q_oa_2, q_rt_2, q_oa_3, q_rt_3, q_oa_4, q_rt_4, q_oa_5, q_rt_5, q_oa_6, q_rt_6, q_oa_7, q_rt_7, q_oa_8, q_rt_8, q_oa_9, q_rt_9, q_oa_10, q_rt_10, q_oa_11, q_rt_11, q_oa_12, q_rt_12, q_oa_13, q_rt_13, q_oa_14, q_rt_14, q_oa_15, q_rt_15, q_oa_16, q_rt_16, q_oa_17, q_rt_17, q_ar_0, q_ar_1, q_ar_2, asI_N, asI_i, q_l2, q_l3, q_l4, q_l5, q_l6, q_l7, q_l8, q_l9, q_l10, q_l11, q_l12, q_l13, q_ret, q_bind, q_bindn, q_map, q_mapn, q_one, q_zero, q_evT, q_own, evNeg, startR, List.getElem?_cons_succ, List.getElem?_cons_zero, List.set_cons_succ, List.set_cons_zero, List.map_cons, List.map_nil, List.replicate, List.length_cons, List.length_nil, List.append_eq, List.nil_append, List.cons_append, Bool.and_true, Bool.true_and, Bool.and_false, Bool.false_and, Bool.not_true, Bool.not_false, if_true, if_false, reduceCtorEq, Nat.reduceSub, Nat.reduceAdd, Nat.reduceLeDiff, Bool.false_eq_true, Bool.or_false, Bool.false_or, ite_true, ite_false, n_add, lenOk_0, lenOk_1, lenOk_2, lenOk_3, lenOk_4, lenOk_5, lenOk_6, lenOk_7, lenOk_8, law_comes_is hb]
      cases b <;> simp only [q_wipeR_1, q_wipeR_2, q_asg_1, q_asg_2, q_asg_3, q_asg_4, q_asgR_1, q_ownedArg_1, q_ownedArgs_1, q_ownedArgs_2, q_itemsOf_1, q_itemsOf_2, q_evE_1, q_evE_2, q_evE_3, q_evE_4, q_evE_5, q_evE_6, q_evE_7, q_evE_8, q_evE_9, q_evE_10, q_evE_11, q_evE_12, q_evE_13, q_evE_14, q_evE_15, q_evE_16, q_evE_17, q_evE_18, q_evE_19, q_evE_20, q_evEs_1, q_evEs_2, q_evP_1, q_evP_2, q_evC_1, q_evC_2, q_evI_1, q_evI_2, q_evRet_1, q_evS_1, q_evS_2, q_evS_3, q_evS_4, q_evS_5, q_evS_6, q_evS_7, q_evS_8, q_evS_9, q_evS_10, q_evS_11, q_evS_12, q_evS_13, q_evS_14, q_evS_15, q_evS_16, q_evSs_1, q_evSs_2, q_oa_0, q_rt_0, q_oa_1, q_rt_1, q_oa_2, q_rt_2, q_oa_3, q_rt_3, q_oa_4, q_rt_4, q_oa_5, q_rt_5, q_oa_6, q_rt_6, q_oa_7, q_rt_7, q_oa_8, q_rt_8, q_oa_9, q_rt_9, q_oa_10, q_rt_10, q_oa_11, q_rt_11, q_oa_12, q_rt_12, q_oa_13, q_rt_13, q_oa_14, q_rt_14, q_oa_15, q_rt_15, q_oa_16, q_rt_16, q_oa_17, q_rt_17, q_ar_0, q_ar_1, q_ar_2, asI_N, asI_i, q_l2, q_l3, q_l4, q_l5, q_l6, q_l7, q_l8, q_l9, q_l10, q_l11, q_l12, q_l13, q_ret, q_bind, q_bindn, q_map, q_mapn, q_one, q_zero, q_evT, q_own, evNeg, startR, List.getElem?_cons_succ, List.getElem?_cons_zero, List.set_cons_succ, List.set_cons_zero, List.map_cons, List.map_nil, List.replicate, List.length_cons, List.length_nil, List.append_eq, List.nil_append, List.cons_append, Bool.and_true, Bool.true_and, Bool.and_false, Bool.false_and, Bool.not_true, Bool.not_false, if_true, if_false, reduceCtorEq, Nat.reduceSub, Nat.reduceAdd, Nat.reduceLeDiff, Bool.false_eq_true, Bool.or_false, Bool.false_or, ite_true, ite_false, n_add, lenOk_0, lenOk_1, lenOk_2, lenOk_3, lenOk_4, lenOk_5, lenOk_6, lenOk_7, lenOk_8]
    have hall := keepO_all h2
    have hd : ∀ d ∈ r.map encW, ∃ o, F d = some o := fun d hd => by
      obtain ⟨w, hw, rfl⟩ := List.mem_map.mp hd
      obtain ⟨b, hb⟩ := hall w hw
      exact ⟨_, hF2 w b hb⟩
    obtain ⟨ys, e1, e2⟩ := compGo_count L fun d hd2 => hd d (hL.mem_iff.mp hd2)
    obtain ⟨zs, e3, e4⟩ := compGo_count (r.map encW) hd
    obtain ⟨us, e5, e6⟩ := keepO_comp r due h2 fun w _ b hb => hF2 w b hb
    rw [e3] at e5
    cases e5
    refine ⟨ys, ?_, by rw [e2, hL.countP_eq, ← e4, e6]⟩
    rw [← hF] at e1
    simp only [q_wipeR_1, q_wipeR_2, q_asg_1, q_asg_2, q_asg_3, q_asg_4, q_asgR_1, q_ownedArg_1, q_ownedArgs_1, q_ownedArgs_2, q_itemsOf_1, q_itemsOf_2, q_evE_1, q_evE_2, q_evE_3, q_evE_4, q_evE_5, q_evE_6, q_evE_7, q_evE_8, q_evE_9, q_evE_10, q_evE_11, q_evE_12, q_evE_13, q_evE_14, q_evE_15, q_evE_16, q_evE_17, q_evE_18, q_evE_19, q_evE_20, q_evEs_1, q_evEs_2, q_evP_1, q_evP_2, q_evC_1, q_evC_2, q_evI_1, q_evI_2, q_evRet_1, q_evS_1, q_evS_2, q_evS_3, q_evS_4, q_evS_5, q_evS_6, q_evS_7, q_evS_8, q_evS_9, q_evS_10, q_evS_11, q_evS_12, q_evS_13, q_evS_14, q_evS_15, q_evS_16, q_evSs_1, q_evSs_2, q_oa_0, q_rt_0, q_oa_1, q_rt_1, q_oa_2, q_rt_2, q_oa_3, q_rt_3, q_oa_4, q_rt_4, q_oa_5, q_rt_5, q_oa_6, q_rt_6, q_oa_7, q_rt_7, q_oa_8, q_rt_8, q_oa_9, q_rt_9, q_oa_10, q_rt_10, q_oa_11, q_rt_11, q_oa_12, q_rt_12, q_oa_13, q_rt_13, q_oa_14, q_rt_14, q_oa_15, q_rt_15, q_oa_16, q_rt_16, q_oa_17, q_rt_17, q_ar_0, q_ar_1, q_ar_2, asI_N, asI_i, q_l2, q_l3, q_l4, q_l5, q_l6, q_l7, q_l8, q_l9, q_l10, q_l11, q_l12, q_l13, q_ret, q_bind, q_bindn, q_map, q_mapn, q_one, q_zero, q_evT, q_own, evNeg, startR, List.getElem?_cons_succ, List.getElem?_cons_zero, List.set_cons_succ, List.set_cons_zero, List.map_cons, List.map_nil, List.replicate, List.length_cons, List.length_nil, List.append_eq, List.nil_append, List.cons_append, Bool.and_true, Bool.true_and, Bool.and_false, Bool.false_and, Bool.not_true, Bool.not_false, if_true, if_false, reduceCtorEq, Nat.reduceSub, Nat.reduceAdd, Nat.reduceLeDiff, Bool.false_eq_true, Bool.or_false, Bool.false_or, ite_true, ite_false, n_add, lenOk_0, lenOk_1, lenOk_2, lenOk_3, lenOk_4, lenOk_5, lenOk_6, lenOk_7, lenOk_8] at e1
    exact congrArg (Option.map fun ys => (true, PyData.list ys)) e1
  obtain ⟨ys, e1, e2⟩ := ec
  unfold f__law_told evDef ir__law_told
  simp only [q_wipeR_1, q_wipeR_2, q_asg_1, q_asg_2, q_asg_3, q_asg_4, q_asgR_1, q_ownedArg_1, q_ownedArgs_1, q_ownedArgs_2, q_itemsOf_1, q_itemsOf_2, q_evE_1, q_evE_2, q_evE_3, q_evE_4, q_evE_5, q_evE_6, q_evE_7, q_evE_8, q_evE_9, q_evE_10, q_evE_11, q_evE_12, q_evE_13, q_evE_14, q_evE_15, q_evE_16, q_evE_17, q_evE_18, q_evE_19, q_evE_20, q_evEs_1, q_evEs_2, q_evP_1, q_evP_2, q_evC_1, q_evC_2, q_evI_1, q_evI_2, q_evRet_1, q_evS_1, q_evS_2, q_evS_3, q_evS_4, q_evS_5, q_evS_6, q_evS_7, q_evS_8, q_evS_9, q_evS_10, q_evS_11, q_evS_12, q_evS_13, q_evS_14, q_evS_15, q_evS_16, q_evSs_1, q_evSs_2, q_oa_0, q_rt_0, q_oa_1, q_rt_1, q_oa_2, q_rt_2, q_oa_3, q_rt_3, q_oa_4, q_rt_4, q_oa_5, q_rt_5, q_oa_6, q_rt_6, q_oa_7, q_rt_7, q_oa_8, q_rt_8, q_oa_9, q_rt_9, q_oa_10, q_rt_10, q_oa_11, q_rt_11, q_oa_12, q_rt_12, q_oa_13, q_rt_13, q_oa_14, q_rt_14, q_oa_15, q_rt_15, q_oa_16, q_rt_16, q_oa_17, q_rt_17, q_ar_0, q_ar_1, q_ar_2, asI_N, asI_i, q_l2, q_l3, q_l4, q_l5, q_l6, q_l7, q_l8, q_l9, q_l10, q_l11, q_l12, q_l13, q_ret, q_bind, q_bindn, q_map, q_mapn, q_one, q_zero, q_evT, q_own, evNeg, startR, List.getElem?_cons_succ, List.getElem?_cons_zero, List.set_cons_succ, List.set_cons_zero, List.map_cons, List.map_nil, List.replicate, List.length_cons, List.length_nil, List.append_eq, List.nil_append, List.cons_append, Bool.and_true, Bool.true_and, Bool.and_false, Bool.false_and, Bool.not_true, Bool.not_false, if_true, if_false, reduceCtorEq, Nat.reduceSub, Nat.reduceAdd, Nat.reduceLeDiff, Bool.false_eq_true, Bool.or_false, Bool.false_or, ite_true, ite_false, n_add, lenOk_0, lenOk_1, lenOk_2, lenOk_3, lenOk_4, lenOk_5, lenOk_6, lenOk_7, lenOk_8, e1, n_len, e2, hlen, count_is hm0 hm hn h1, is_number_is, n_eq, n_min2, n_gt]
  cases decide (t = due) <;> simp only [q_wipeR_1, q_wipeR_2, q_asg_1, q_asg_2, q_asg_3, q_asg_4, q_asgR_1, q_ownedArg_1, q_ownedArgs_1, q_ownedArgs_2, q_itemsOf_1, q_itemsOf_2, q_evE_1, q_evE_2, q_evE_3, q_evE_4, q_evE_5, q_evE_6, q_evE_7, q_evE_8, q_evE_9, q_evE_10, q_evE_11, q_evE_12, q_evE_13, q_evE_14, q_evE_15, q_evE_16, q_evE_17, q_evE_18, q_evE_19, q_evE_20, q_evEs_1, q_evEs_2, q_evP_1, q_evP_2, q_evC_1, q_evC_2, q_evI_1, q_evI_2, q_evRet_1, q_evS_1, q_evS_2, q_evS_3, q_evS_4, q_evS_5, q_evS_6, q_evS_7, q_evS_8, q_evS_9, q_evS_10, q_evS_11, q_evS_12, q_evS_13, q_evS_14, q_evS_15, q_evS_16, q_evSs_1, q_evSs_2, q_oa_0, q_rt_0, q_oa_1, q_rt_1, q_oa_2, q_rt_2, q_oa_3, q_rt_3, q_oa_4, q_rt_4, q_oa_5, q_rt_5, q_oa_6, q_rt_6, q_oa_7, q_rt_7, q_oa_8, q_rt_8, q_oa_9, q_rt_9, q_oa_10, q_rt_10, q_oa_11, q_rt_11, q_oa_12, q_rt_12, q_oa_13, q_rt_13, q_oa_14, q_rt_14, q_oa_15, q_rt_15, q_oa_16, q_rt_16, q_oa_17, q_rt_17, q_ar_0, q_ar_1, q_ar_2, asI_N, asI_i, q_l2, q_l3, q_l4, q_l5, q_l6, q_l7, q_l8, q_l9, q_l10, q_l11, q_l12, q_l13, q_ret, q_bind, q_bindn, q_map, q_mapn, q_one, q_zero, q_evT, q_own, evNeg, startR, List.getElem?_cons_succ, List.getElem?_cons_zero, List.set_cons_succ, List.set_cons_zero, List.map_cons, List.map_nil, List.replicate, List.length_cons, List.length_nil, List.append_eq, List.nil_append, List.cons_append, Bool.and_true, Bool.true_and, Bool.and_false, Bool.false_and, Bool.not_true, Bool.not_false, if_true, if_false, reduceCtorEq, Nat.reduceSub, Nat.reduceAdd, Nat.reduceLeDiff, Bool.false_eq_true, Bool.or_false, Bool.false_or, ite_true, ite_false, n_add, lenOk_0, lenOk_1, lenOk_2, lenOk_3, lenOk_4, lenOk_5, lenOk_6, lenOk_7, lenOk_8, n_min2, n_gt]
  cases decide (2 < if n < m then n else m) <;> simp only [q_wipeR_1, q_wipeR_2, q_asg_1, q_asg_2, q_asg_3, q_asg_4, q_asgR_1, q_ownedArg_1, q_ownedArgs_1, q_ownedArgs_2, q_itemsOf_1, q_itemsOf_2, q_evE_1, q_evE_2, q_evE_3, q_evE_4, q_evE_5, q_evE_6, q_evE_7, q_evE_8, q_evE_9, q_evE_10, q_evE_11, q_evE_12, q_evE_13, q_evE_14, q_evE_15, q_evE_16, q_evE_17, q_evE_18, q_evE_19, q_evE_20, q_evEs_1, q_evEs_2, q_evP_1, q_evP_2, q_evC_1, q_evC_2, q_evI_1, q_evI_2, q_evRet_1, q_evS_1, q_evS_2, q_evS_3, q_evS_4, q_evS_5, q_evS_6, q_evS_7, q_evS_8, q_evS_9, q_evS_10, q_evS_11, q_evS_12, q_evS_13, q_evS_14, q_evS_15, q_evS_16, q_evSs_1, q_evSs_2, q_oa_0, q_rt_0, q_oa_1, q_rt_1, q_oa_2, q_rt_2, q_oa_3, q_rt_3, q_oa_4, q_rt_4, q_oa_5, q_rt_5, q_oa_6, q_rt_6, q_oa_7, q_rt_7, q_oa_8, q_rt_8, q_oa_9, q_rt_9, q_oa_10, q_rt_10, q_oa_11, q_rt_11, q_oa_12, q_rt_12, q_oa_13, q_rt_13, q_oa_14, q_rt_14, q_oa_15, q_rt_15, q_oa_16, q_rt_16, q_oa_17, q_rt_17, q_ar_0, q_ar_1, q_ar_2, asI_N, asI_i, q_l2, q_l3, q_l4, q_l5, q_l6, q_l7, q_l8, q_l9, q_l10, q_l11, q_l12, q_l13, q_ret, q_bind, q_bindn, q_map, q_mapn, q_one, q_zero, q_evT, q_own, evNeg, startR, List.getElem?_cons_succ, List.getElem?_cons_zero, List.set_cons_succ, List.set_cons_zero, List.map_cons, List.map_nil, List.replicate, List.length_cons, List.length_nil, List.append_eq, List.nil_append, List.cons_append, Bool.and_true, Bool.true_and, Bool.and_false, Bool.false_and, Bool.not_true, Bool.not_false, if_true, if_false, reduceCtorEq, Nat.reduceSub, Nat.reduceAdd, Nat.reduceLeDiff, Bool.false_eq_true, Bool.or_false, Bool.false_or, ite_true, ite_false, n_add, lenOk_0, lenOk_1, lenOk_2, lenOk_3, lenOk_4, lenOk_5, lenOk_6, lenOk_7, lenOk_8, n_len, hlen, n_eq, Bool.true_or]
/-- what is to be reckoned of a menu's pair -/
def okMN (m n : Nat) : Bool := match cntP m n, cntP n m, waysL m n with
  | some t, some t2, some r => r.all ordB && (match keepO comesL r with
    | some due => decide (t = due) && (decide (2 < if n < m then n else m) || decide (due = r.length)) && decide (t = t2)
    | none => false)
  | _, _, _ => false
theorem okMN_is {m n : Nat} (hm0 : 0 < m) (hm : m ≤ 20) (hn0 : 0 < n) (hn : n ≤ 20) (h : okMN m n = true) : ∃ t L, f__law_ways [N m, N n] = some (true, .list L) ∧ f__law_told [N m, N n, .list L] = some (false, .bool true) ∧ f_count_tree_cuttings [N m, N n] = some (false, N t) ∧ f_count_tree_cuttings [N n, N m] = some (false, N t) := by
  unfold okMN at h
  split at h
  case h_2 => cases h
  rename_i t t2 r e1 e2 e3
  rw [Bool.and_eq_true] at h
  obtain ⟨ho, h⟩ := h
  split at h
  case h_2 => cases h
  rename_i due e4
  rw [Bool.and_eq_true] at h
  obtain ⟨h, h5⟩ := h
  have h5 := of_decide_eq_true h5
  subst h5
  obtain ⟨L, e6, hp⟩ := law_ways_is hm0 hm hn e3 ho
  refine ⟨t, L, e6, (told_is hm0 hm hn e1 e4 rfl hp).trans (by rw [h]), count_is hm0 hm hn e1, count_is hn0 hn hm e2⟩
theorem draws_eq : f__law_draws = PV.f_draws := rfl
def encP (p : Nat × Nat) : PyData := .tuple [N p.1, N p.2]
def menu : List (Nat × Nat) := [(1, 1), (1, 3), (2, 1), (2, 2), (2, 3), (3, 2), (1, 5), (5, 1), (2, 4), (4, 2), (1, 6), (6, 1)]
def menu2 : List (Nat × Nat) := [(3, 4), (4, 3), (2, 5), (5, 2)]
theorem menu_at {l : List (Nat × Nat)} {k : Nat} (h : k < l.length) : ∃ p ∈ l, evIx (.list (l.map encP)) (N k) = some (false, .tuple [N p.1, N p.2]) := by
  refine ⟨l[k], List.getElem_mem h, ?_⟩
  rw [n_ixl, List.getElem?_map, List.getElem?_eq_getElem h]
  rfl
end K88

set_option Elab.async false
set_option linter.all false
set_option maxRecDepth 100000
set_option maxHeartbeats 4000000
namespace K88
open PySem L2 PV
def okRow (k : Nat) : Bool := match cntP k 1, cntP 1 k with
  | some a, some b => decide (a = 2 ^ (k - 1)) && decide (b = 2 ^ (k - 1))
  | _, _ => false
theorem okRow_is {k : Nat} (h0 : 0 < k) (hk : k ≤ 20) (h : okRow k = true) : f_count_tree_cuttings [N k, N 1] = some (false, N (2 ^ (k - 1))) ∧ f_count_tree_cuttings [N 1, N k] = some (false, N (2 ^ (k - 1))) := by
  unfold okRow at h
  split at h
  case h_2 => cases h
  rename_i a b e1 e2
  rw [Bool.and_eq_true, decide_eq_true_eq, decide_eq_true_eq] at h
  obtain ⟨rfl, h2⟩ := h
  rw [h2] at e2
  exact ⟨count_is h0 hk (by decide) e1, count_is (by decide) (by decide) hk e2⟩
theorem d_20 : PyData.int 20 = N 20 := Eq.trans rfl (Eq.refl _)
theorem d_24 : PyData.int 24 = N 24 := Eq.trans rfl (Eq.refl _)
theorem d_96 : PyData.int 96 = N 96 := Eq.trans rfl (Eq.refl _)
theorem d_320 : PyData.int 320 = N 320 := Eq.trans rfl (Eq.refl _)
def goodP (p : Nat × Nat) : Prop := ∃ t L, f__law_ways [N p.1, N p.2] = some (true, .list L) ∧ f__law_told [N p.1, N p.2, .list L] = some (false, .bool true) ∧ f_count_tree_cuttings [N p.1, N p.2] = some (false, N t) ∧ f_count_tree_cuttings [N p.2, N p.1] = some (false, N t)
theorem law_of (hm : ∀ p ∈ menu ++ menu2, okMN p.1 p.2 = true) (h33 : okMN 3 3 = true) (c33 : cntP 3 3 = some 320) (c22 : cntP 2 2 = some 8) (hr : ∀ k < 11, okRow (k + 1) = true) (ns : List Int) (hl : ns.length ≤ 63) : f_law [.list (ns.map .int)] = some (false, .bool true) := by
  obtain ⟨l, e1, hlen, hd⟩ := draws_is (many := 20) hl (by decide)
  rw [← draws_eq] at e1
  have hx : ∀ i, i < 20 → ∃ d, (l.map N)[i]? = some (N d) := fun i hi => ⟨l[i], by rw [List.getElem?_map, List.getElem?_eq_getElem (by rw [hlen]; exact hi)]; rfl⟩
  obtain ⟨d0, x0⟩ := hx 0 (by decide)
  obtain ⟨d1, x1⟩ := hx 1 (by decide)
  obtain ⟨d2, x2⟩ := hx 2 (by decide)
  obtain ⟨d3, x3⟩ := hx 3 (by decide)
  have hgood : ∀ p ∈ menu ++ menu2, goodP p := fun p hp => by
    have hb : ∀ p ∈ menu ++ menu2, 0 < p.1 ∧ p.1 ≤ 20 ∧ 0 < p.2 ∧ p.2 ≤ 20 := by decide
    obtain ⟨a, b, c, d⟩ := hb p hp
    exact okMN_is a b c d (hm p hp)
  obtain ⟨p, hp, ep⟩ := menu_at (l := menu) (k := d0 % 12) (Nat.mod_lt _ (by decide))
  have ep : evIx (.list [.tuple [N 1, N 1], .tuple [N 1, N 3], .tuple [N 2, N 1], .tuple [N 2, N 2], .tuple [N 2, N 3], .tuple [N 3, N 2], .tuple [N 1, N 5], .tuple [N 5, N 1], .tuple [N 2, N 4], .tuple [N 4, N 2], .tuple [N 1, N 6], .tuple [N 6, N 1]]) (N (d0 % 12)) = some (false, .tuple [N p.1, N p.2]) := ep
  obtain ⟨q, hq, eq⟩ := menu_at (l := menu2) (k := d2 % 4) (Nat.mod_lt _ (by decide))
  have eq : evIx (.list [.tuple [N 3, N 4], .tuple [N 4, N 3], .tuple [N 2, N 5], .tuple [N 5, N 2]]) (N (d2 % 4)) = some (false, .tuple [N q.1, N q.2]) := eq
  obtain ⟨t3, L3, w3, o3, _, _⟩ := okMN_is (m := 3) (n := 3) (by decide) (by decide) (by decide) (by decide) h33
  have n33 := count_is (by decide) (by decide) (by decide) c33
  have n22 := count_is (by decide) (by decide) (by decide) c22
  have rows : ∀ k, 1 ≤ k → k ≤ 11 → f_count_tree_cuttings [N k, N 1] = some (false, N (2 ^ (k - 1))) ∧ f_count_tree_cuttings [N 1, N k] = some (false, N (2 ^ (k - 1))) := fun k h1 h2 => by
    have := hr (k - 1) (by omega)
    rw [Nat.sub_add_cancel h1] at this
    exact okRow_is h1 (by omega) this
  -- the pair in hand
  have key : ∀ (u : Nat × Nat), u ∈ menu ++ menu2 → goodP u := hgood
  obtain ⟨tp, Lp, wp, op, cp, cp2⟩ := hgood p (List.mem_append.mpr (.inl hp))
  obtain ⟨tq, Lq, wq, oq, cq, cq2⟩ := hgood q (List.mem_append.mpr (.inr hq))
  have m12 : ∀ a, evBin .mod (N a) (N 12) = some (false, N (a % 12)) := fun a => n_mod (by decide)
  have m96 : ∀ a, evBin .mod (N a) (N 96) = some (false, N (a % 96)) := fun a => n_mod (by decide)
  have m24 : ∀ a, evBin .mod (N a) (N 24) = some (false, N (a % 24)) := fun a => n_mod (by decide)
  have m4 : ∀ a, evBin .mod (N a) (N 4) = some (false, N (a % 4)) := fun a => n_mod (by decide)
  have m8 : ∀ a, evBin .mod (N a) (N 8) = some (false, N (a % 8)) := fun a => n_mod (by decide)
  have m3 : ∀ a, evBin .mod (N a) (N 3) = some (false, N (a % 3)) := fun a => n_mod (by decide)
  have r1 := rows (1 + d3 % 8) (by omega) (by omega)
  have r2 := rows (9 + d3 % 3) (by omega) (by omega)
  have s1 : evBin .sub (N (1 + d3 % 8)) (N 1) = some (false, N (1 + d3 % 8 - 1)) := n_sub (by omega)
  have s2 : evBin .sub (N (9 + d3 % 3)) (N 1) = some (false, N (9 + d3 % 3 - 1)) := n_sub (by omega)
  have u1 : evBin .shl (N 1) (N (1 + d3 % 8 - 1)) = some (false, N (1 * 2 ^ (1 + d3 % 8 - 1))) := n_shl (by decide) (by omega)
  have u2 : evBin .shl (N 1) (N (9 + d3 % 3 - 1)) = some (false, N (1 * 2 ^ (9 + d3 % 3 - 1))) := n_shl (by decide) (by omega)
  unfold f_law evDef ir_law
  have l12 := lenOk_12
  have y0 : evIx (.list (l.map N)) (N 0) = some (false, N d0) := by rw [n_ixl, x0]; rfl
  have y1 : evIx (.list (l.map N)) (N 1) = some (false, N d1) := by rw [n_ixl, x1]; rfl
  have y2 : evIx (.list (l.map N)) (N 2) = some (false, N d2) := by rw [n_ixl, x2]; rfl
  have y3 : evIx (.list (l.map N)) (N 3) = some (false, N d3) := by rw [n_ixl, x3]; rfl
  by_cases h96 : d1 % 96 = 6 <;> by_cases h12 : d1 % 12 = 5 <;> by_cases h24 : d1 % 24 = 7 <;>
    simp only [q_wipeR_1, q_wipeR_2, q_asg_1, q_asg_2, q_asg_3, q_asg_4, q_asgR_1, q_ownedArg_1, q_ownedArgs_1, q_ownedArgs_2, q_itemsOf_1, q_itemsOf_2, q_evE_1, q_evE_2, q_evE_3, q_evE_4, q_evE_5, q_evE_6, q_evE_7, q_evE_8, q_evE_9, q_evE_10, q_evE_11, q_evE_12, q_evE_13, q_evE_14, q_evE_15, q_evE_16, q_evE_17, q_evE_18, q_evE_19, q_evE_20, q_evEs_1, q_evEs_2, q_evP_1, q_evP_2, q_evC_1, q_evC_2, q_evI_1, q_evI_2, q_evRet_1, q_evS_1, q_evS_2, q_evS_3, q_evS_4, q_evS_5, q_evS_6, q_evS_7, q_evS_8, q_evS_9, q_evS_10, q_evS_11, q_evS_12, q_evS_13, q_evS_14, q_evS_15, q_evS_16, q_evSs_1, q_evSs_2, q_oa_0, q_rt_0, q_oa_1, q_rt_1, q_oa_2, q_rt_2, q_oa_3, q_rt_3, q_oa_4, q_rt_4, q_oa_5, q_rt_5, q_oa_6, q_rt_6, q_oa_7, q_rt_7, q_oa_8, q_rt_8, q_oa_9, q_rt_9, q_oa_10, q_rt_10, q_oa_11, q_rt_11, q_oa_12, q_rt_12, q_oa_13, q_rt_13, q_oa_14, q_rt_14, q_oa_15, q_rt_15, q_oa_16, q_rt_16, q_oa_17, q_rt_17, q_ar_0, q_ar_1, q_ar_2, asI_N, asI_i, q_l2, q_l3, q_l4, q_l5, q_l6, q_l7, q_l8, q_l9, q_l10, q_l11, q_l12, q_l13, q_ret, q_bind, q_bindn, q_map, q_mapn, q_one, q_zero, q_evT, q_own, evNeg, startR, List.getElem?_cons_succ, List.getElem?_cons_zero, List.set_cons_succ, List.set_cons_zero, List.map_cons, List.map_nil, List.replicate, List.length_cons, List.length_nil, List.append_eq, List.nil_append, List.cons_append, Bool.and_true, Bool.true_and, Bool.and_false, Bool.false_and, Bool.not_true, Bool.not_false, if_true, if_false, reduceCtorEq, Nat.reduceSub, Nat.reduceAdd, Nat.reduceLeDiff, Bool.false_eq_true, Bool.or_false, Bool.false_or, ite_true, ite_false, n_add, lenOk_0, lenOk_1, lenOk_2, lenOk_3, lenOk_4, lenOk_5, lenOk_6, lenOk_7, lenOk_8, d_20, d_24, d_96, d_320, e1, y0, y1, y2, y3, m12, m96, m24, m4, m8, m3, n_eq, n_ne, l12, lenOk_9, lenOk_10, lenOk_11, ep, eq, wp, op, cp, cp2, wq, oq, cq, cq2, w3, o3, n33, n22, r1.1, r1.2, r2.1, r2.2, s1, s2, u1, u2, h96, h12, h24, decide_true, decide_false, Nat.one_mul]
end K88

set_option Elab.async false
set_option linter.all false
set_option maxRecDepth 100000
set_option maxHeartbeats 4000000
namespace K88
open PySem L2 PV
/-! ### the clear lines by bits, for the kernel -/
def hit (K v : Nat) : Bool := Nat.blt 0 (Nat.land K v)
theorem hit_iff {K v : Nat} : hit K v = true ↔ ∃ i, K.testBit i = true ∧ v.testBit i = true := by
  unfold hit
  rw [Nat.blt_eq]
  constructor
  · intro h
    obtain ⟨i, hi⟩ := Nat.exists_testBit_of_ne_zero (x := Nat.land K v) (by omega)
    have hi : (K &&& v).testBit i = true := hi
    rw [Nat.testBit_and, Bool.and_eq_true] at hi
    exact ⟨i, hi⟩
  · rintro ⟨i, h1, h2⟩
    have h3 : (K &&& v).testBit i = true := by rw [Nat.testBit_and, h1, h2]; rfl
    have h4 : K &&& v ≠ 0 := fun e => by rw [e, Nat.zero_testBit] at h3; cases h3
    exact Nat.pos_of_ne_zero h4
theorem hit_pow (K c : Nat) : hit K (2 ^ c) = K.testBit c := by
  rw [Bool.eq_iff_iff, hit_iff]
  constructor
  · rintro ⟨i, h1, h2⟩
    rw [Nat.testBit_two_pow] at h2
    have : c = i := of_decide_eq_true h2
    rw [this]; exact h1
  · intro h
    exact ⟨c, h, by rw [Nat.testBit_two_pow]; exact decide_eq_true rfl⟩
theorem hit_low (K c : Nat) : hit K (2 ^ c - 1) = true ↔ ∃ i, i < c ∧ K.testBit i = true := by
  rw [hit_iff]
  constructor
  · rintro ⟨i, h1, h2⟩
    rw [Nat.testBit_two_pow_sub_one] at h2
    exact ⟨i, of_decide_eq_true h2, h1⟩
  · rintro ⟨i, h1, h2⟩
    exact ⟨i, h2, by rw [Nat.testBit_two_pow_sub_one]; exact decide_eq_true h1⟩
def st0 : List B → Nat
  | [] => 0
  | (y, _, _, _) :: l => Nat.lor (2 ^ y) (st0 l)
def st1 : List B → Nat
  | [] => 0
  | (_, x, _, _) :: l => Nat.lor (2 ^ x) (st1 l)
def cr0 : List B → Nat
  | [] => 0
  | (y, _, h, _) :: l => Nat.lor (2 ^ (y + h) - 2 ^ (y + 1)) (cr0 l)
def cr1 : List B → Nat
  | [] => 0
  | (_, x, _, w) :: l => Nat.lor (2 ^ (x + w) - 2 ^ (x + 1)) (cr1 l)
theorem run_bits (y h c : Nat) : (2 ^ (y + h) - 2 ^ (y + 1)).testBit c = (decide (y < c) && decide (c < y + h)) := by
  cases h with
  | zero =>
    have : 2 ^ y ≤ 2 ^ (y + 1) := Nat.pow_le_pow_right (by decide) (by omega)
    rw [Nat.add_zero, Nat.sub_eq_zero_of_le this, Nat.zero_testBit]
    by_cases h : y < c
    · rw [decide_eq_true h, decide_eq_false (by omega)]; rfl
    · rw [decide_eq_false h]; rfl
  | succ k =>
    have e : 2 ^ (y + (k + 1)) - 2 ^ (y + 1) = (2 ^ k - 1) * 2 ^ (y + 1) := by
      rw [Nat.sub_mul, Nat.one_mul, ← Nat.pow_add]
      congr 2; omega
    rw [e, Nat.testBit_mul_two_pow, Nat.testBit_two_pow_sub_one]
    by_cases h1 : y + 1 ≤ c
    · rw [decide_eq_true h1, decide_eq_true (show y < c by omega), Bool.true_and, Bool.true_and]
      congr 1
      exact propext ⟨fun h => by omega, fun h => by omega⟩
    · rw [decide_eq_false h1, decide_eq_false (show ¬ y < c by omega)]; rfl
theorem st0_bit (c : Nat) : ∀ l : List B, (st0 l).testBit c = l.any fun b => decide (co 0 b = c)
  | [] => Nat.zero_testBit c
  | (y, x, h, w) :: l => by
    show (2 ^ y ||| st0 l).testBit c = _
    rw [Nat.testBit_or, Nat.testBit_two_pow, st0_bit c l]; rfl
theorem st1_bit (c : Nat) : ∀ l : List B, (st1 l).testBit c = l.any fun b => decide (co 1 b = c)
  | [] => Nat.zero_testBit c
  | (y, x, h, w) :: l => by
    show (2 ^ x ||| st1 l).testBit c = _
    rw [Nat.testBit_or, Nat.testBit_two_pow, st1_bit c l]; rfl
theorem cr0_bit (c : Nat) : ∀ l : List B, (cr0 l).testBit c = l.any (crosses 0 c)
  | [] => Nat.zero_testBit c
  | (y, x, h, w) :: l => by
    show ((2 ^ (y + h) - 2 ^ (y + 1)) ||| cr0 l).testBit c = _
    rw [Nat.testBit_or, run_bits, cr0_bit c l]; rfl
theorem cr1_bit (c : Nat) : ∀ l : List B, (cr1 l).testBit c = l.any (crosses 1 c)
  | [] => Nat.zero_testBit c
  | (y, x, h, w) :: l => by
    show ((2 ^ (x + w) - 2 ^ (x + 1)) ||| cr1 l).testBit c = _
    rw [Nat.testBit_or, run_bits, cr1_bit c l]; rfl
def stS (side : Nat) (l : List B) : Nat := if side = 0 then st0 l else st1 l
def crS (side : Nat) (l : List B) : Nat := if side = 0 then cr0 l else cr1 l
theorem stS_bit {side c : Nat} (h : side < 2) (l : List B) : (stS side l).testBit c = l.any fun b => decide (co side b = c) := by
  match side, h with
  | 0, _ => exact st0_bit c l
  | 1, _ => exact st1_bit c l
theorem crS_bit {side c : Nat} (h : side < 2) (l : List B) : (crS side l).testBit c = l.any (crosses side c) := by
  match side, h with
  | 0, _ => exact cr0_bit c l
  | 1, _ => exact cr1_bit c l
def okc (s c v : Nat) : Bool := hit s v && (!hit c v && hit s (v - 1))
theorem okc_iff {side c : Nat} (h : side < 2) (l : List B) : okc (stS side l) (crS side l) (2 ^ c) = true ↔ c ∈ l.map (co side) ∧ clear l side c = true ∧ ∃ i, i < c ∧ i ∈ l.map (co side) := by
  unfold okc clear
  rw [Bool.and_eq_true, Bool.and_eq_true, hit_pow, hit_pow, hit_low, stS_bit h, crS_bit h]
  have e : ∀ c, (l.any fun b => decide (co side b = c)) = true ↔ c ∈ l.map (co side) := fun c => by
    rw [List.any_eq_true, List.mem_map]
    exact ⟨fun ⟨b, h1, h2⟩ => ⟨b, h1, of_decide_eq_true h2⟩, fun ⟨b, h1, h2⟩ => ⟨b, h1, decide_eq_true h2⟩⟩
  rw [e]
  refine and_congr Iff.rfl (and_congr Iff.rfl ⟨fun ⟨i, h1, h2⟩ => ⟨i, h1, ?_⟩, fun ⟨i, h1, h2⟩ => ⟨i, h1, ?_⟩⟩)
  · rw [stS_bit h] at h2; exact (e i).mp h2
  · rw [stS_bit h]; exact (e i).mpr h2
theorem minN_le : ∀ (l : List Nat) (m : Nat), minN m l ≤ m ∧ (∀ x ∈ l, minN m l ≤ x) ∧ (minN m l = m ∨ minN m l ∈ l)
  | [], m => ⟨Nat.le_refl _, (fun _ h => nomatch h), .inl rfl⟩
  | x :: l, m => by
    rw [minN]
    by_cases h : x < m
    · rw [if_pos h]
      obtain ⟨h1, h2, h3⟩ := minN_le l x
      refine ⟨by omega, fun y hy => ?_, ?_⟩
      · rcases List.mem_cons.mp hy with rfl | hy
        · exact h1
        · exact h2 y hy
      · rcases h3 with h3 | h3
        · exact .inr (by rw [h3]; exact List.mem_cons_self)
        · exact .inr (List.mem_cons_of_mem _ h3)
    · rw [if_neg h]
      obtain ⟨h1, h2, h3⟩ := minN_le l m
      refine ⟨h1, fun y hy => ?_, ?_⟩
      · rcases List.mem_cons.mp hy with rfl | hy
        · omega
        · exact h2 y hy
      · rcases h3 with h3 | h3
        · exact .inl h3
        · exact .inr (List.mem_cons_of_mem _ h3)
theorem least_iff {side c : Nat} {l : List B} (hc : c ∈ l.map (co side)) : leastOf side l < c ↔ ∃ i, i < c ∧ i ∈ l.map (co side) := by
  unfold leastOf
  cases e : l.map (co side) with
  | nil => rw [e] at hc; cases hc
  | cons x r =>
    obtain ⟨h1, h2, h3⟩ := minN_le r x
    constructor
    · intro h
      refine ⟨minN x r, h, ?_⟩
      rcases h3 with h3 | h3
      · rw [h3]; exact List.mem_cons_self
      · exact List.mem_cons_of_mem _ h3
    · rintro ⟨i, h4, h5⟩
      rcases List.mem_cons.mp h5 with rfl | h5
      · exact Nat.lt_of_le_of_lt h1 h4
      · exact Nat.lt_of_le_of_lt (h2 i h5) h4
theorem okc_good {side c : Nat} (h : side < 2) (l : List B) : okc (stS side l) (crS side l) (2 ^ c) = true ↔ c ∈ l.map (co side) ∧ goodLine l side c = true := by
  rw [okc_iff h]
  constructor
  · rintro ⟨h1, h2, h3⟩
    refine ⟨h1, ?_⟩
    unfold goodLine
    rw [h2, decide_eq_true ((least_iff h1).mpr h3)]; rfl
  · rintro ⟨h1, h2⟩
    unfold goodLine at h2
    rw [Bool.and_eq_true, decide_eq_true_eq] at h2
    exact ⟨h1, h2.2, (least_iff h1).mp h2.1⟩
/-! sorted lists -/
theorem mem_insN {x y : Nat} : ∀ {l : List Nat}, y ∈ insN x l ↔ y = x ∨ y ∈ l
  | [] => by simp [insN]
  | z :: l => by
    rw [insN]
    split
    · rw [List.mem_cons]
    · rw [List.mem_cons, mem_insN, List.mem_cons]
      constructor
      · rintro (h | h | h)
        · exact .inr (.inl h)
        · exact .inl h
        · exact .inr (.inr h)
      · rintro (h | h | h)
        · exact .inr (.inl h)
        · exact .inl h
        · exact .inr (.inr h)
theorem mem_sortN {y : Nat} : ∀ {l : List Nat}, y ∈ sortN l ↔ y ∈ l
  | [] => Iff.rfl
  | x :: l => by rw [sortN, mem_insN, mem_sortN, List.mem_cons]
theorem mem_dedupN {y : Nat} : ∀ {l : List Nat}, y ∈ dedupN l ↔ y ∈ l
  | [] => Iff.rfl
  | x :: l => by
    rw [dedupN]
    split
    · rename_i h
      rw [List.contains_iff_mem] at h
      rw [mem_dedupN, List.mem_cons]
      exact ⟨.inr, fun z => z.elim (fun e => e ▸ h) _root_.id⟩
    · rw [List.mem_cons, mem_dedupN, List.mem_cons]
theorem nodup_dedupN : ∀ {l : List Nat}, (dedupN l).Nodup
  | [] => .nil
  | x :: l => by
    rw [dedupN]
    split
    · exact nodup_dedupN
    · rename_i h
      rw [List.contains_iff_mem] at h
      exact List.nodup_cons.mpr ⟨fun z => h (mem_dedupN.mp z), nodup_dedupN⟩
theorem insN_lt {x : Nat} : ∀ {l : List Nat}, l.Pairwise (· < ·) → x ∉ l → (insN x l).Pairwise (· < ·)
  | [], _, _ => by simp [insN]
  | y :: l, h, n => by
    rw [List.pairwise_cons] at h
    rw [List.mem_cons, not_or] at n
    rw [insN]
    split
    · rename_i hxy
      refine List.pairwise_cons.mpr ⟨fun z hz => ?_, List.pairwise_cons.mpr h⟩
      rcases List.mem_cons.mp hz with rfl | hz
      · have := n.1; omega
      · have := h.1 z hz; have := n.1; omega
    · refine List.pairwise_cons.mpr ⟨fun z hz => ?_, insN_lt h.2 n.2⟩
      rcases mem_insN.mp hz with rfl | hz
      · omega
      · exact h.1 z hz
theorem sortN_lt : ∀ {l : List Nat}, l.Nodup → (sortN l).Pairwise (· < ·)
  | [], _ => .nil
  | x :: l, h => by
    rw [List.nodup_cons] at h
    exact insN_lt (sortN_lt h.2) fun z => h.1 (mem_sortN.mp z)
theorem lt_ext {l r : List Nat} (h1 : l.Pairwise (· < ·)) (h2 : r.Pairwise (· < ·)) (h : ∀ x, x ∈ l ↔ x ∈ r) : l = r := by
  refine List.Perm.eq_of_pairwise (le := (· < ·)) (fun a b _ _ p q => absurd p (by omega)) h1 h2 ?_
  have n1 : l.Nodup := h1.imp fun z => by omega
  have n2 : r.Nodup := h2.imp fun z => by omega
  exact (List.perm_ext_iff_of_nodup n1 n2).mpr h
abbrev starts (side : Nat) (l : List B) : List Nat := sortN (dedupN (l.map (co side)))
theorem starts_lt {side : Nat} {l : List B} : (starts side l).Pairwise (· < ·) := sortN_lt nodup_dedupN
theorem starts_mem {side c : Nat} {l : List B} : c ∈ starts side l ↔ c ∈ l.map (co side) := by rw [mem_sortN, mem_dedupN]
def LN : List Nat := [1, 2, 3, 4, 5, 6, 7, 8, 9, 10, 11, 12]
def goods (side : Nat) (l : List B) : List Nat := LN.filter fun c => okc (stS side l) (crS side l) (2 ^ c)
theorem LN_mem {c : Nat} : c ∈ LN ↔ 1 ≤ c ∧ c ≤ 12 := by
  unfold LN
  simp only [List.mem_cons, List.not_mem_nil, or_false]
  omega
def lim (l : List B) : Bool := l.all fun b => Nat.ble b.1 12 && Nat.ble b.2.1 12
theorem lim_co {side : Nat} {l : List B} (h : lim l = true) : ∀ c ∈ l.map (co side), c ≤ 12 := fun c hc => by
  obtain ⟨b, hb, rfl⟩ := List.mem_map.mp hc
  have := List.all_eq_true.mp h b hb
  rw [Bool.and_eq_true, Nat.ble_eq, Nat.ble_eq] at this
  unfold co
  split
  · exact this.1
  · exact this.2
theorem goods_eq {side : Nat} {l : List B} (h : side < 2) (hl : lim l = true) : (starts side l).filter (goodLine l side) = goods side l := by
  refine lt_ext (starts_lt.filter _) ((show LN.Pairwise (· < ·) by decide).filter _) fun c => ?_
  rw [List.mem_filter, starts_mem]
  unfold goods
  rw [List.mem_filter, LN_mem, okc_good h]
  constructor
  · rintro ⟨h1, h2⟩
    refine ⟨⟨?_, lim_co hl c h1⟩, h1, h2⟩
    unfold goodLine at h2
    rw [Bool.and_eq_true, decide_eq_true_eq] at h2
    omega
  · rintro ⟨_, h2⟩
    exact h2
theorem first_side {side : Nat} {l : List B} (h : side < 2) (hl : lim l = true) : fcSide l side = (goods side l).head? := by
  unfold fcSide
  rw [← List.head?_filter, goods_eq h hl]
theorem foldl_last {part : List B} {side : Nat} : ∀ (L : List Nat) (c : Option (Nat × Nat)), L.foldl (cutStep part side) c = match (L.filter (clear part side)).getLast? with
    | some x => some (side, x)
    | none => c
  | [], c => rfl
  | x :: L, c => by
    rw [List.foldl_cons, foldl_last L, List.filter_cons]
    unfold cutStep
    cases clear part side x with
    | false => rfl
    | true =>
      rw [if_pos rfl, if_pos rfl]
      cases e : L.filter (clear part side) with
      | nil => rfl
      | cons y r =>
        have h2 : (x :: y :: r).getLast? = (y :: r).getLast? := by rw [List.getLast?_cons]; rw [List.getLast?_cons]; simp
        rw [h2]
        rw [List.getLast?_cons]
theorem drop_good {side : Nat} {l : List B} : ((starts side l).drop 1).filter (clear l side) = (starts side l).filter (goodLine l side) := by
  cases e : starts side l with
  | nil => rfl
  | cons a r =>
    have hp := starts_lt (side := side) (l := l)
    rw [e, List.pairwise_cons] at hp
    have ha : a ∈ l.map (co side) := starts_mem.mp (by rw [e]; exact List.mem_cons_self)
    have na : goodLine l side a = false := by
      unfold goodLine
      rw [Bool.and_eq_false_iff]
      left
      refine decide_eq_false fun z => ?_
      obtain ⟨i, h1, h2⟩ := (least_iff ha).mp z
      have h3 := starts_mem.mpr h2
      rw [e] at h3
      rcases List.mem_cons.mp h3 with rfl | h3
      · omega
      · have := hp.1 i h3; omega
    rw [List.drop_succ_cons, List.drop_zero, List.filter_cons, na, if_neg Bool.false_ne_true]
    refine List.filter_congr fun c hc => ?_
    have hc2 : c ∈ l.map (co side) := starts_mem.mp (by rw [e]; exact List.mem_cons_of_mem _ hc)
    unfold goodLine
    rw [decide_eq_true ((least_iff hc2).mpr ⟨a, hp.1 c hc, ha⟩), Bool.true_and]
theorem last_side {side : Nat} {l : List B} {c : Option (Nat × Nat)} (h : side < 2) (hl : lim l = true) : cutSide l side c = match (goods side l).getLast? with
    | some x => some (side, x)
    | none => c := by
  unfold cutSide
  rw [foldl_last, drop_good, goods_eq h hl]
/-! the fast walk: lines with their powers of two -/
def LV : List (Nat × Nat) := [(1, 2), (2, 4), (3, 8), (4, 16), (5, 32), (6, 64), (7, 128), (8, 256), (9, 512), (10, 1024), (11, 2048), (12, 4096)]
def LVr : List (Nat × Nat) := [(12, 4096), (11, 2048), (10, 1024), (9, 512), (8, 256), (7, 128), (6, 64), (5, 32), (4, 16), (3, 8), (2, 4), (1, 2)]
def pick (s c : Nat) : List (Nat × Nat) → Option Nat
  | [] => none
  | (i, v) :: r => match okc s c v with
    | true => some i
    | false => pick s c r
theorem pick_find {s c : Nat} : ∀ (l : List Nat), pick s c (l.map fun i => (i, 2 ^ i)) = l.find? fun i => okc s c (2 ^ i)
  | [] => rfl
  | i :: l => by
    rw [List.map_cons, pick, List.find?_cons]
    cases okc s c (2 ^ i) with
    | true => rfl
    | false => exact pick_find l
theorem pick_first {s c : Nat} : pick s c LV = (LN.filter fun i => okc s c (2 ^ i)).head? := by
  rw [List.head?_filter, ← pick_find]
  rfl
theorem pick_last {s c : Nat} : pick s c LVr = (LN.filter fun i => okc s c (2 ^ i)).getLast? := by
  rw [List.getLast?_filter, ← pick_find]
  rfl
def low0 (line : Nat) (l : List B) : List B := l.filter fun b => Nat.blt b.1 line
def low1 (line : Nat) (l : List B) : List B := l.filter fun b => Nat.blt b.2.1 line
def upp0 (line : Nat) (l : List B) : List B := l.filter fun b => Nat.ble line b.1
def upp1 (line : Nat) (l : List B) : List B := l.filter fun b => Nat.ble line b.2.1
theorem keep_filter {α : Type} (p : α → Bool) : ∀ l : List α, keepIf p l = l.filter p
  | [] => rfl
  | x :: l => by
    show (x :: l).filterMap (fun x => if p x then some x else none) = _
    rw [List.filter_cons]
    cases h : p x with
    | true => rw [List.filterMap_cons_some (b := x) (by rw [h]; rfl), if_pos rfl]; exact congrArg _ (keep_filter p l)
    | false => rw [List.filterMap_cons_none (by rw [h]; rfl), if_neg Bool.false_ne_true]; exact keep_filter p l
theorem low0_eq (line : Nat) (l : List B) : lowers 0 line l = low0 line l := (keep_filter _ l).trans (List.filter_congr fun b _ => by rw [Bool.eq_iff_iff, decide_eq_true_eq, Nat.blt_eq]; rfl)
theorem low1_eq (line : Nat) (l : List B) : lowers 1 line l = low1 line l := (keep_filter _ l).trans (List.filter_congr fun b _ => by rw [Bool.eq_iff_iff, decide_eq_true_eq, Nat.blt_eq]; rfl)
theorem upp0_eq (line : Nat) (l : List B) : uppers 0 line l = upp0 line l := (keep_filter _ l).trans (List.filter_congr fun b _ => by rw [Bool.eq_iff_iff, decide_eq_true_eq, Nat.ble_eq]; rfl)
theorem upp1_eq (line : Nat) (l : List B) : uppers 1 line l = upp1 line l := (keep_filter _ l).trans (List.filter_congr fun b _ => by rw [Bool.eq_iff_iff, decide_eq_true_eq, Nat.ble_eq]; rfl)
/-- by the first clear line -/
def ffGo : Nat → List (List B) → Option Bool
  | 0, _ => none
  | _ + 1, [] => some true
  | k + 1, [] :: st => ffGo k st
  | k + 1, [_] :: st => ffGo k st
  | k + 1, (a :: b :: l) :: st => match pick (st0 (a :: b :: l)) (cr0 (a :: b :: l)) LV with
    | some line => ffGo k (upp0 line (a :: b :: l) :: low0 line (a :: b :: l) :: st)
    | none => match pick (st1 (a :: b :: l)) (cr1 (a :: b :: l)) LV with
      | some line => ffGo k (upp1 line (a :: b :: l) :: low1 line (a :: b :: l) :: st)
      | none => some false
/-- by the last one -/
def flGo : Nat → List (List B) → Option Bool
  | 0, _ => none
  | _ + 1, [] => some true
  | k + 1, [] :: st => flGo k st
  | k + 1, [_] :: st => flGo k st
  | k + 1, (a :: b :: l) :: st => match pick (st1 (a :: b :: l)) (cr1 (a :: b :: l)) LVr with
    | some line => flGo k (upp1 line (a :: b :: l) :: low1 line (a :: b :: l) :: st)
    | none => match pick (st0 (a :: b :: l)) (cr0 (a :: b :: l)) LVr with
      | some line => flGo k (upp0 line (a :: b :: l) :: low0 line (a :: b :: l) :: st)
      | none => some false
theorem lim_filter {l : List B} (p : B → Bool) (h : lim l = true) : lim (l.filter p) = true := List.all_eq_true.mpr fun b hb => List.all_eq_true.mp h b (List.mem_filter.mp hb).1
theorem first_eq {l : List B} (hl : lim l = true) : firstClear l = match pick (st0 l) (cr0 l) LV with
    | some line => some (0, line)
    | none => match pick (st1 l) (cr1 l) LV with
      | some line => some (1, line)
      | none => none := by
  unfold firstClear
  rw [first_side (by decide) hl, first_side (by decide) hl, pick_first, pick_first]
  rfl
theorem last_eq {l : List B} (hl : lim l = true) : lastClear l = match pick (st1 l) (cr1 l) LVr with
    | some line => some (1, line)
    | none => match pick (st0 l) (cr0 l) LVr with
      | some line => some (0, line)
      | none => none := by
  unfold lastClear
  rw [last_side (by decide) hl, last_side (by decide) hl, pick_last, pick_last]
  rfl
theorem ff_eq : ∀ (k : Nat) (st : List (List B)), (∀ p ∈ st, lim p = true) → cpGo k st = ffGo k st
  | 0, _, _ => rfl
  | _ + 1, [], _ => rfl
  | k + 1, [] :: st, h => by
    rw [cpGo, ffGo, if_neg (by simp)]
    exact ff_eq k st fun p hp => h p (List.mem_cons_of_mem _ hp)
  | k + 1, [_] :: st, h => by
    rw [cpGo, ffGo, if_neg (by simp)]
    exact ff_eq k st fun p hp => h p (List.mem_cons_of_mem _ hp)
  | k + 1, (a :: b :: l) :: st, h => by
    have hl := h _ List.mem_cons_self
    have hst : ∀ p ∈ st, lim p = true := fun p hp => h p (List.mem_cons_of_mem _ hp)
    rw [cpGo, ffGo, if_pos (by simp), first_eq hl]
    generalize a :: b :: l = part at *
    cases pick (st0 part) (cr0 part) LV with
    | some line =>
      show cpGo k (uppers 0 line part :: lowers 0 line part :: st) = _
      rw [low0_eq, upp0_eq]
      refine ff_eq k _ fun p hp => ?_
      rcases List.mem_cons.mp hp with rfl | hp
      · exact lim_filter _ hl
      rcases List.mem_cons.mp hp with rfl | hp
      · exact lim_filter _ hl
      · exact hst p hp
    | none =>
      cases pick (st1 part) (cr1 part) LV with
      | some line =>
        show cpGo k (uppers 1 line part :: lowers 1 line part :: st) = _
        rw [low1_eq, upp1_eq]
        refine ff_eq k _ fun p hp => ?_
        rcases List.mem_cons.mp hp with rfl | hp
        · exact lim_filter _ hl
        rcases List.mem_cons.mp hp with rfl | hp
        · exact lim_filter _ hl
        · exact hst p hp
      | none => rfl
theorem fl_eq : ∀ (k : Nat) (st : List (List B)), (∀ p ∈ st, lim p = true) → lcGo k st = flGo k st
  | 0, _, _ => rfl
  | _ + 1, [], _ => rfl
  | k + 1, [] :: st, h => by
    rw [lcGo, flGo, if_neg (by simp)]
    exact fl_eq k st fun p hp => h p (List.mem_cons_of_mem _ hp)
  | k + 1, [_] :: st, h => by
    rw [lcGo, flGo, if_neg (by simp)]
    exact fl_eq k st fun p hp => h p (List.mem_cons_of_mem _ hp)
  | k + 1, (a :: b :: l) :: st, h => by
    have hl := h _ List.mem_cons_self
    have hst : ∀ p ∈ st, lim p = true := fun p hp => h p (List.mem_cons_of_mem _ hp)
    rw [lcGo, flGo, if_pos (by simp), last_eq hl]
    generalize a :: b :: l = part at *
    cases pick (st1 part) (cr1 part) LVr with
    | some line =>
      show lcGo k (uppers 1 line part :: lowers 1 line part :: st) = _
      rw [low1_eq, upp1_eq]
      refine fl_eq k _ fun p hp => ?_
      rcases List.mem_cons.mp hp with rfl | hp
      · exact lim_filter _ hl
      rcases List.mem_cons.mp hp with rfl | hp
      · exact lim_filter _ hl
      · exact hst p hp
    | none =>
      cases pick (st0 part) (cr0 part) LVr with
      | some line =>
        show lcGo k (uppers 0 line part :: lowers 0 line part :: st) = _
        rw [low0_eq, upp0_eq]
        refine fl_eq k _ fun p hp => ?_
        rcases List.mem_cons.mp hp with rfl | hp
        · exact lim_filter _ hl
        rcases List.mem_cons.mp hp with rfl | hp
        · exact lim_filter _ hl
        · exact hst p hp
      | none => rfl
theorem keepO_congr {f g : List B → Option Bool} : ∀ {r : List (List B)}, (∀ w ∈ r, f w = g w) → keepO f r = keepO g r
  | [], _ => rfl
  | w :: r, h => by rw [keepO, keepO, h w List.mem_cons_self, keepO_congr fun v hv => h v (List.mem_cons_of_mem _ hv)]
def fineP (w : List B) : Bool := lim w && Nat.blt w.length 64
def cntPF (m n : Nat) : Option Nat := (waysP m n).bind fun r => match r.all fineP with
  | true => keepO (fun w => ffGo 60 [w]) r
  | false => none
theorem cntPF_is {m n c : Nat} (h : cntPF m n = some c) : cntP m n = some c := by
  unfold cntPF at h
  obtain ⟨r, h1, h2⟩ := bind_some h
  split at h2
  case h_2 => cases h2
  rename_i ha
  unfold cntP
  rw [h1]
  show (if r.all (fun w => decide (w.length < 64)) then keepO comesP r else none) = some c
  have hw : ∀ w ∈ r, lim w = true ∧ w.length < 64 := fun w hw => by
    have := List.all_eq_true.mp ha w hw
    unfold fineP at this
    rw [Bool.and_eq_true, Nat.blt_eq] at this
    exact this
  rw [if_pos (List.all_eq_true.mpr fun w h => decide_eq_true (hw w h).2), ← h2]
  exact keepO_congr fun w h => ff_eq 60 [w] fun p hp => by rw [List.mem_singleton.mp hp]; exact (hw w h).1
def fineL (w : List B) : Bool := ordB w && fineP w
def cntLF (m n : Nat) : Option (Nat × Nat) := (waysL m n).bind fun r => match r.all fineL with
  | true => (keepO (fun w => flGo 60 [w]) r).map fun c => (c, r.length)
  | false => none
theorem okMN_fast {m n t len : Nat} (h1 : cntPF m n = some t) (h2 : cntPF n m = some t) (h3 : cntLF m n = some (t, len)) (h4 : (Nat.blt 2 (if n < m then n else m) || decide (t = len)) = true) : okMN m n = true := by
  unfold cntLF at h3
  obtain ⟨r, e1, e2⟩ := bind_some h3
  split at e2
  case h_2 => cases e2
  rename_i ha
  obtain ⟨c, e3, e4⟩ := map_some e2
  cases e4
  have hw : ∀ w ∈ r, ordB w = true ∧ lim w = true ∧ w.length < 64 := fun w hw => by
    have := List.all_eq_true.mp ha w hw
    unfold fineL fineP at this
    rw [Bool.and_eq_true, Bool.and_eq_true, Nat.blt_eq] at this
    exact this
  have e5 : keepO comesL r = some t := by
    rw [← e3]
    refine keepO_congr fun w h => ?_
    obtain ⟨a, b, d⟩ := hw w h
    unfold comesL
    rw [a, decide_eq_true d]
    exact fl_eq 60 [w] fun p hp => by rw [List.mem_singleton.mp hp]; exact b
  unfold okMN
  rw [cntPF_is h1, cntPF_is h2, e1]
  show (r.all ordB && (match keepO comesL r with
    | some due => decide (t = due) && (decide (2 < if n < m then n else m) || decide (due = r.length)) && decide (t = t)
    | none => false)) = true
  rw [e5, List.all_eq_true.mpr fun w h => (hw w h).1]
  show (true && (decide (t = t) && (decide (2 < if n < m then n else m) || decide (t = r.length)) && decide (t = t))) = true
  rw [decide_eq_true rfl, Bool.true_and, Bool.true_and, Bool.and_true]
  rw [Bool.or_eq_true, Nat.blt_eq] at h4
  rw [Bool.or_eq_true, decide_eq_true_eq]
  exact h4
theorem okRow_fast {k : Nat} (h1 : cntPF k 1 = some (2 ^ (k - 1))) (h2 : cntPF 1 k = some (2 ^ (k - 1))) : okRow k = true := by
  unfold okRow
  rw [cntPF_is h1, cntPF_is h2]
  show (decide (2 ^ (k - 1) = 2 ^ (k - 1)) && decide (2 ^ (k - 1) = 2 ^ (k - 1))) = true
  rw [decide_eq_true rfl]
  rfl
end K88

set_option Elab.async false
set_option linter.all false
set_option maxRecDepth 100000
set_option maxHeartbeats 4000000
namespace K88
open PySem L2 PV
/-! ### the same by bare recursors: quick for the kernel -/
noncomputable def rs0 (l : List B) : Nat := List.rec (motive := fun _ => Nat) 0 (fun b _ a => Nat.lor (Nat.pow 2 b.1) a) l
noncomputable def rs1 (l : List B) : Nat := List.rec (motive := fun _ => Nat) 0 (fun b _ a => Nat.lor (Nat.pow 2 b.2.1) a) l
noncomputable def rc0 (l : List B) : Nat := List.rec (motive := fun _ => Nat) 0 (fun b _ a => Nat.lor (Nat.sub (Nat.pow 2 (Nat.add b.1 b.2.2.1)) (Nat.pow 2 (Nat.succ b.1))) a) l
noncomputable def rc1 (l : List B) : Nat := List.rec (motive := fun _ => Nat) 0 (fun b _ a => Nat.lor (Nat.sub (Nat.pow 2 (Nat.add b.2.1 b.2.2.2)) (Nat.pow 2 (Nat.succ b.2.1))) a) l
theorem rs0_eq : ∀ l, rs0 l = st0 l
  | [] => rfl
  | b :: l => congrArg (Nat.lor (2 ^ b.1)) (rs0_eq l)
theorem rs1_eq : ∀ l, rs1 l = st1 l
  | [] => rfl
  | b :: l => congrArg (Nat.lor (2 ^ b.2.1)) (rs1_eq l)
theorem rc0_eq : ∀ l, rc0 l = cr0 l
  | [] => rfl
  | b :: l => congrArg (Nat.lor (2 ^ (b.1 + b.2.2.1) - 2 ^ (b.1 + 1))) (rc0_eq l)
theorem rc1_eq : ∀ l, rc1 l = cr1 l
  | [] => rfl
  | b :: l => congrArg (Nat.lor (2 ^ (b.2.1 + b.2.2.2) - 2 ^ (b.2.1 + 1))) (rc1_eq l)
noncomputable def rhit (K v : Nat) : Bool := Nat.ble 1 (Nat.land K v)
noncomputable def rok (s c v : Nat) : Bool := Bool.rec (motive := fun _ => Bool) false (Bool.rec (motive := fun _ => Bool) (rhit s (Nat.sub v 1)) false (rhit c v)) (rhit s v)
theorem rok_eq (s c v : Nat) : rok s c v = okc s c v := by
  have e : ∀ K v, rhit K v = hit K v := fun K v => rfl
  unfold rok okc
  rw [e, e, e]
  have e2 : Nat.sub v 1 = v - 1 := rfl
  rw [e2]
  cases hit s v <;> cases hit c v <;> rfl
noncomputable def rpick (s c : Nat) (l : List (Nat × Nat)) : Option Nat := List.rec (motive := fun _ => Option Nat) none (fun p _ r => Bool.rec (motive := fun _ => Option Nat) r (some p.1) (rok s c p.2)) l
theorem rpick_eq (s c : Nat) : ∀ l, rpick s c l = pick s c l
  | [] => rfl
  | (i, v) :: l => by
    show Bool.rec (motive := fun _ => Option Nat) (rpick s c l) (some i) (rok s c v) = _
    rw [pick, rok_eq, rpick_eq s c l]
    cases okc s c v <;> rfl
noncomputable def rfil (p : B → Bool) (l : List B) : List B := List.rec (motive := fun _ => List B) [] (fun b _ r => Bool.rec (motive := fun _ => List B) r (b :: r) (p b)) l
theorem rfil_eq (p : B → Bool) : ∀ l, rfil p l = l.filter p
  | [] => rfl
  | b :: l => by
    show Bool.rec (motive := fun _ => List B) (rfil p l) (b :: rfil p l) (p b) = _
    rw [List.filter_cons, rfil_eq p l]
    cases p b <;> rfl
noncomputable def rlow0 (line : Nat) (l : List B) : List B := rfil (fun b => Nat.ble (Nat.succ b.1) line) l
noncomputable def rlow1 (line : Nat) (l : List B) : List B := rfil (fun b => Nat.ble (Nat.succ b.2.1) line) l
noncomputable def rupp0 (line : Nat) (l : List B) : List B := rfil (fun b => Nat.ble line b.1) l
noncomputable def rupp1 (line : Nat) (l : List B) : List B := rfil (fun b => Nat.ble line b.2.1) l
theorem rlow0_eq (line : Nat) (l : List B) : rlow0 line l = low0 line l := rfil_eq _ l
theorem rlow1_eq (line : Nat) (l : List B) : rlow1 line l = low1 line l := rfil_eq _ l
theorem rupp0_eq (line : Nat) (l : List B) : rupp0 line l = upp0 line l := rfil_eq _ l
theorem rupp1_eq (line : Nat) (l : List B) : rupp1 line l = upp1 line l := rfil_eq _ l
abbrev GoT := List (List B) → Option Bool
noncomputable def rffStep (ih : GoT) (part : List B) (st : List (List B)) : Option Bool :=
  Option.rec (motive := fun _ => Option Bool)
    (Option.rec (motive := fun _ => Option Bool) (some false) (fun line => ih (rupp1 line part :: rlow1 line part :: st)) (rpick (rs1 part) (rc1 part) LV))
    (fun line => ih (rupp0 line part :: rlow0 line part :: st)) (rpick (rs0 part) (rc0 part) LV)
noncomputable def rflStep (ih : GoT) (part : List B) (st : List (List B)) : Option Bool :=
  Option.rec (motive := fun _ => Option Bool)
    (Option.rec (motive := fun _ => Option Bool) (some false) (fun line => ih (rupp0 line part :: rlow0 line part :: st)) (rpick (rs0 part) (rc0 part) LVr))
    (fun line => ih (rupp1 line part :: rlow1 line part :: st)) (rpick (rs1 part) (rc1 part) LVr)
noncomputable def rGo (step : GoT → List B → List (List B) → Option Bool) (k : Nat) : GoT :=
  Nat.rec (motive := fun _ => GoT) (fun _ => none) (fun _ ih st => List.rec (motive := fun _ => Option Bool) (some true) (fun part st _ =>
    List.rec (motive := fun _ => Option Bool) (ih st) (fun a t _ => List.rec (motive := fun _ => Option Bool) (ih st) (fun _ _ _ => step ih part st) t) part) st) k
theorem rff_eq : ∀ (k : Nat) (st : List (List B)), rGo rffStep k st = ffGo k st
  | 0, _ => rfl
  | _ + 1, [] => rfl
  | k + 1, [] :: st => rff_eq k st
  | k + 1, [_] :: st => rff_eq k st
  | k + 1, (a :: b :: l) :: st => by
    show rffStep (rGo rffStep k) (a :: b :: l) st = _
    rw [ffGo]
    generalize a :: b :: l = part
    unfold rffStep
    rw [rpick_eq, rpick_eq, rs0_eq, rs1_eq, rc0_eq, rc1_eq]
    cases pick (st0 part) (cr0 part) LV with
    | some line => show rGo rffStep k (rupp0 line part :: rlow0 line part :: st) = _; rw [rupp0_eq, rlow0_eq]; exact rff_eq k _
    | none =>
      cases pick (st1 part) (cr1 part) LV with
      | some line => show rGo rffStep k (rupp1 line part :: rlow1 line part :: st) = _; rw [rupp1_eq, rlow1_eq]; exact rff_eq k _
      | none => rfl
theorem rfl_eq : ∀ (k : Nat) (st : List (List B)), rGo rflStep k st = flGo k st
  | 0, _ => rfl
  | _ + 1, [] => rfl
  | k + 1, [] :: st => rfl_eq k st
  | k + 1, [_] :: st => rfl_eq k st
  | k + 1, (a :: b :: l) :: st => by
    show rflStep (rGo rflStep k) (a :: b :: l) st = _
    rw [flGo]
    generalize a :: b :: l = part
    unfold rflStep
    rw [rpick_eq, rpick_eq, rs0_eq, rs1_eq, rc0_eq, rc1_eq]
    cases pick (st1 part) (cr1 part) LVr with
    | some line => show rGo rflStep k (rupp1 line part :: rlow1 line part :: st) = _; rw [rupp1_eq, rlow1_eq]; exact rfl_eq k _
    | none =>
      cases pick (st0 part) (cr0 part) LVr with
      | some line => show rGo rflStep k (rupp0 line part :: rlow0 line part :: st) = _; rw [rupp0_eq, rlow0_eq]; exact rfl_eq k _
      | none => rfl
noncomputable def rcnt (f : List B → Option Bool) (l : List (List B)) : Option Nat := List.rec (motive := fun _ => Option Nat) (some 0) (fun w _ r =>
  Option.rec (motive := fun _ => Option Nat) none (fun b => Option.rec (motive := fun _ => Option Nat) none (fun n => some (Bool.rec (motive := fun _ => Nat) n (Nat.succ n) b)) r) (f w)) l
theorem rcnt_eq {f g : List B → Option Bool} (h : ∀ w, f w = g w) : ∀ l, rcnt f l = keepO g l
  | [] => rfl
  | w :: l => by
    show Option.rec (motive := fun _ => Option Nat) none (fun b => Option.rec (motive := fun _ => Option Nat) none (fun n => some (Bool.rec (motive := fun _ => Nat) n (Nat.succ n) b)) (rcnt f l)) (f w) = _
    rw [keepO, h w, rcnt_eq h l]
    cases g w with
    | none => rfl
    | some b =>
      cases keepO g l with
      | none => rfl
      | some n => cases b <;> rfl
noncomputable def cntR (m n : Nat) : Option Nat := (waysP m n).bind fun r => match r.all fineP with
  | true => rcnt (fun w => rGo rffStep 60 [w]) r
  | false => none
theorem cntR_eq (m n : Nat) : cntR m n = cntPF m n := by
  unfold cntR cntPF
  cases waysP m n with
  | none => rfl
  | some r =>
    show (match r.all fineP with | true => rcnt (fun w => rGo rffStep 60 [w]) r | false => none) = match r.all fineP with | true => keepO (fun w => ffGo 60 [w]) r | false => none
    cases r.all fineP with
    | false => rfl
    | true => exact rcnt_eq (fun w => rff_eq 60 [w]) r
noncomputable def cntRL (m n : Nat) : Option (Nat × Nat) := (waysL m n).bind fun r => match r.all fineL with
  | true => (rcnt (fun w => rGo rflStep 60 [w]) r).map fun c => (c, r.length)
  | false => none
theorem cntRL_eq (m n : Nat) : cntRL m n = cntLF m n := by
  unfold cntRL cntLF
  cases waysL m n with
  | none => rfl
  | some r =>
    show (match r.all fineL with | true => (rcnt (fun w => rGo rflStep 60 [w]) r).map fun c => (c, r.length) | false => none) = match r.all fineL with | true => (keepO (fun w => flGo 60 [w]) r).map fun c => (c, r.length) | false => none
    cases r.all fineL with
    | false => rfl
    | true => exact congrArg (Option.map fun c => (c, r.length)) (rcnt_eq (fun w => rfl_eq 60 [w]) r)
end K88

set_option Elab.async false
set_option linter.all false
set_option maxRecDepth 100000
set_option maxHeartbeats 0
namespace K88
open PySem L2 PV
theorem p_1_1 : cntPF 1 1 = some 1 := (cntR_eq 1 1).symm.trans (by decide +kernel)
theorem p_1_2 : cntPF 1 2 = some 2 := (cntR_eq 1 2).symm.trans (by decide +kernel)
theorem p_1_3 : cntPF 1 3 = some 4 := (cntR_eq 1 3).symm.trans (by decide +kernel)
theorem p_1_4 : cntPF 1 4 = some 8 := (cntR_eq 1 4).symm.trans (by decide +kernel)
theorem p_1_5 : cntPF 1 5 = some 16 := (cntR_eq 1 5).symm.trans (by decide +kernel)
theorem p_1_6 : cntPF 1 6 = some 32 := (cntR_eq 1 6).symm.trans (by decide +kernel)
theorem p_1_7 : cntPF 1 7 = some 64 := (cntR_eq 1 7).symm.trans (by decide +kernel)
theorem p_1_8 : cntPF 1 8 = some 128 := (cntR_eq 1 8).symm.trans (by decide +kernel)
theorem p_1_9 : cntPF 1 9 = some 256 := (cntR_eq 1 9).symm.trans (by decide +kernel)
theorem p_1_10 : cntPF 1 10 = some 512 := (cntR_eq 1 10).symm.trans (by decide +kernel)
theorem p_1_11 : cntPF 1 11 = some 1024 := (cntR_eq 1 11).symm.trans (by decide +kernel)
theorem p_2_1 : cntPF 2 1 = some 2 := (cntR_eq 2 1).symm.trans (by decide +kernel)
theorem p_2_2 : cntPF 2 2 = some 8 := (cntR_eq 2 2).symm.trans (by decide +kernel)
theorem p_2_3 : cntPF 2 3 = some 34 := (cntR_eq 2 3).symm.trans (by decide +kernel)
theorem p_2_4 : cntPF 2 4 = some 148 := (cntR_eq 2 4).symm.trans (by decide +kernel)
theorem p_2_5 : cntPF 2 5 = some 650 := (cntR_eq 2 5).symm.trans (by decide +kernel)
theorem p_3_1 : cntPF 3 1 = some 4 := (cntR_eq 3 1).symm.trans (by decide +kernel)
theorem p_3_2 : cntPF 3 2 = some 34 := (cntR_eq 3 2).symm.trans (by decide +kernel)
theorem p_3_3 : cntPF 3 3 = some 320 := (cntR_eq 3 3).symm.trans (by decide +kernel)
theorem p_3_4 : cntPF 3 4 = some 3118 := (cntR_eq 3 4).symm.trans (by decide +kernel)
theorem p_4_1 : cntPF 4 1 = some 8 := (cntR_eq 4 1).symm.trans (by decide +kernel)
theorem p_4_2 : cntPF 4 2 = some 148 := (cntR_eq 4 2).symm.trans (by decide +kernel)
theorem p_4_3 : cntPF 4 3 = some 3118 := (cntR_eq 4 3).symm.trans (by decide +kernel)
theorem p_5_1 : cntPF 5 1 = some 16 := (cntR_eq 5 1).symm.trans (by decide +kernel)
theorem p_5_2 : cntPF 5 2 = some 650 := (cntR_eq 5 2).symm.trans (by decide +kernel)
theorem p_6_1 : cntPF 6 1 = some 32 := (cntR_eq 6 1).symm.trans (by decide +kernel)
theorem p_7_1 : cntPF 7 1 = some 64 := (cntR_eq 7 1).symm.trans (by decide +kernel)
theorem p_8_1 : cntPF 8 1 = some 128 := (cntR_eq 8 1).symm.trans (by decide +kernel)
theorem p_9_1 : cntPF 9 1 = some 256 := (cntR_eq 9 1).symm.trans (by decide +kernel)
theorem p_10_1 : cntPF 10 1 = some 512 := (cntR_eq 10 1).symm.trans (by decide +kernel)
theorem p_11_1 : cntPF 11 1 = some 1024 := (cntR_eq 11 1).symm.trans (by decide +kernel)
theorem l_1_1 : cntLF 1 1 = some (1, 1) := (cntRL_eq 1 1).symm.trans (by decide +kernel)
theorem l_1_3 : cntLF 1 3 = some (4, 4) := (cntRL_eq 1 3).symm.trans (by decide +kernel)
theorem l_2_1 : cntLF 2 1 = some (2, 2) := (cntRL_eq 2 1).symm.trans (by decide +kernel)
theorem l_2_2 : cntLF 2 2 = some (8, 8) := (cntRL_eq 2 2).symm.trans (by decide +kernel)
theorem l_2_3 : cntLF 2 3 = some (34, 34) := (cntRL_eq 2 3).symm.trans (by decide +kernel)
theorem l_3_2 : cntLF 3 2 = some (34, 34) := (cntRL_eq 3 2).symm.trans (by decide +kernel)
theorem l_1_5 : cntLF 1 5 = some (16, 16) := (cntRL_eq 1 5).symm.trans (by decide +kernel)
theorem l_5_1 : cntLF 5 1 = some (16, 16) := (cntRL_eq 5 1).symm.trans (by decide +kernel)
theorem l_2_4 : cntLF 2 4 = some (148, 148) := (cntRL_eq 2 4).symm.trans (by decide +kernel)
theorem l_4_2 : cntLF 4 2 = some (148, 148) := (cntRL_eq 4 2).symm.trans (by decide +kernel)
theorem l_1_6 : cntLF 1 6 = some (32, 32) := (cntRL_eq 1 6).symm.trans (by decide +kernel)
theorem l_6_1 : cntLF 6 1 = some (32, 32) := (cntRL_eq 6 1).symm.trans (by decide +kernel)
theorem l_3_4 : cntLF 3 4 = some (3118, 3164) := (cntRL_eq 3 4).symm.trans (by decide +kernel)
theorem l_4_3 : cntLF 4 3 = some (3118, 3164) := (cntRL_eq 4 3).symm.trans (by decide +kernel)
theorem l_2_5 : cntLF 2 5 = some (650, 650) := (cntRL_eq 2 5).symm.trans (by decide +kernel)
theorem l_5_2 : cntLF 5 2 = some (650, 650) := (cntRL_eq 5 2).symm.trans (by decide +kernel)
theorem l_3_3 : cntLF 3 3 = some (320, 322) := (cntRL_eq 3 3).symm.trans (by decide +kernel)
theorem o_1_1 : okMN 1 1 = true := okMN_fast p_1_1 p_1_1 l_1_1 (by decide +kernel)
theorem o_1_3 : okMN 1 3 = true := okMN_fast p_1_3 p_3_1 l_1_3 (by decide +kernel)
theorem o_2_1 : okMN 2 1 = true := okMN_fast p_2_1 p_1_2 l_2_1 (by decide +kernel)
theorem o_2_2 : okMN 2 2 = true := okMN_fast p_2_2 p_2_2 l_2_2 (by decide +kernel)
theorem o_2_3 : okMN 2 3 = true := okMN_fast p_2_3 p_3_2 l_2_3 (by decide +kernel)
theorem o_3_2 : okMN 3 2 = true := okMN_fast p_3_2 p_2_3 l_3_2 (by decide +kernel)
theorem o_1_5 : okMN 1 5 = true := okMN_fast p_1_5 p_5_1 l_1_5 (by decide +kernel)
theorem o_5_1 : okMN 5 1 = true := okMN_fast p_5_1 p_1_5 l_5_1 (by decide +kernel)
theorem o_2_4 : okMN 2 4 = true := okMN_fast p_2_4 p_4_2 l_2_4 (by decide +kernel)
theorem o_4_2 : okMN 4 2 = true := okMN_fast p_4_2 p_2_4 l_4_2 (by decide +kernel)
theorem o_1_6 : okMN 1 6 = true := okMN_fast p_1_6 p_6_1 l_1_6 (by decide +kernel)
theorem o_6_1 : okMN 6 1 = true := okMN_fast p_6_1 p_1_6 l_6_1 (by decide +kernel)
theorem o_3_4 : okMN 3 4 = true := okMN_fast p_3_4 p_4_3 l_3_4 (by decide +kernel)
theorem o_4_3 : okMN 4 3 = true := okMN_fast p_4_3 p_3_4 l_4_3 (by decide +kernel)
theorem o_2_5 : okMN 2 5 = true := okMN_fast p_2_5 p_5_2 l_2_5 (by decide +kernel)
theorem o_5_2 : okMN 5 2 = true := okMN_fast p_5_2 p_2_5 l_5_2 (by decide +kernel)
theorem o_3_3 : okMN 3 3 = true := okMN_fast p_3_3 p_3_3 l_3_3 (by decide +kernel)
theorem k_menu : ∀ p ∈ menu ++ menu2, okMN p.1 p.2 = true := fun p hp => by
  have hp : p ∈ [((1, 1) : Nat × Nat), ((1, 3) : Nat × Nat), ((2, 1) : Nat × Nat), ((2, 2) : Nat × Nat), ((2, 3) : Nat × Nat), ((3, 2) : Nat × Nat), ((1, 5) : Nat × Nat), ((5, 1) : Nat × Nat), ((2, 4) : Nat × Nat), ((4, 2) : Nat × Nat), ((1, 6) : Nat × Nat), ((6, 1) : Nat × Nat), ((3, 4) : Nat × Nat), ((4, 3) : Nat × Nat), ((2, 5) : Nat × Nat), ((5, 2) : Nat × Nat)] := hp
  simp only [List.mem_cons, List.not_mem_nil, or_false] at hp
  rcases hp with rfl | rfl | rfl | rfl | rfl | rfl | rfl | rfl | rfl | rfl | rfl | rfl | rfl | rfl | rfl | rfl
  · exact o_1_1
  · exact o_1_3
  · exact o_2_1
  · exact o_2_2
  · exact o_2_3
  · exact o_3_2
  · exact o_1_5
  · exact o_5_1
  · exact o_2_4
  · exact o_4_2
  · exact o_1_6
  · exact o_6_1
  · exact o_3_4
  · exact o_4_3
  · exact o_2_5
  · exact o_5_2
theorem k_rows : ∀ k < 11, okRow (k + 1) = true := fun k hk => match k, hk with
  | 0, _ => okRow_fast p_1_1 p_1_1
  | 1, _ => okRow_fast p_2_1 p_1_2
  | 2, _ => okRow_fast p_3_1 p_1_3
  | 3, _ => okRow_fast p_4_1 p_1_4
  | 4, _ => okRow_fast p_5_1 p_1_5
  | 5, _ => okRow_fast p_6_1 p_1_6
  | 6, _ => okRow_fast p_7_1 p_1_7
  | 7, _ => okRow_fast p_8_1 p_1_8
  | 8, _ => okRow_fast p_9_1 p_1_9
  | 9, _ => okRow_fast p_10_1 p_1_10
  | 10, _ => okRow_fast p_11_1 p_1_11
  | k + 11, h => absurd h (by omega)
theorem law_true (ns : List Int) (hl : ns.length ≤ 63) : f_law [.list (ns.map .int)] = some (false, .bool true) := law_of k_menu o_3_3 (cntPF_is p_3_3) (cntPF_is p_2_2) k_rows ns hl
end K88

set_option maxHeartbeats 4000000
namespace K88
open PySem PySem.Spec PyProof.Rows L2 PV
theorem all_mk {l : PySem.W.OpenLaw} {w : World} {K : PySem.W.Frag} {h : Heap} {mg : Str → Option Value} {fa : Addr} (X : K.In h) (G : h.Ns mainGlobals mg) (hfa : mg "law" = some (.ref fa))
    {f0 : Addr} {od0 an0 : Option Addr} {sl0 : Array (Option Value)} {oc0 kV0 dc0 pm0 cd0 ct0 : Value}
    (a0 : PySem.W.nsIn K mainGlobals "first_empty" = some (some (.ref f0))) (l0 : K.lookup f0 = some ⟨oc0, od0, .func (PySem.W.fnOf "first_empty" "first_empty" (defArgs (topS 1)) (defBody (topS 1)) (defScope (topS 1)) .none kV0 dc0 pm0 an0 cd0 ct0), sl0⟩) (c0 : PySem.W.codeIn K cd0 "first_empty" = true) (k0 : PySem.W.keepIn K (.ref f0) = true)
    {f1 : Addr} {od1 an1 : Option Addr} {sl1 : Array (Option Value)} {oc1 kV1 dc1 pm1 cd1 ct1 : Value}
    (a1 : PySem.W.nsIn K mainGlobals "mark_of" = some (some (.ref f1))) (l1 : K.lookup f1 = some ⟨oc1, od1, .func (PySem.W.fnOf "mark_of" "mark_of" (defArgs (topS 2)) (defBody (topS 2)) (defScope (topS 2)) .none kV1 dc1 pm1 an1 cd1 ct1), sl1⟩) (c1 : PySem.W.codeIn K cd1 "mark_of" = true) (k1 : PySem.W.keepIn K (.ref f1) = true)
    {f2 : Addr} {od2 an2 : Option Addr} {sl2 : Array (Option Value)} {oc2 kV2 dc2 pm2 cd2 ct2 : Value}
    (a2 : PySem.W.nsIn K mainGlobals "next_rectangles" = some (some (.ref f2))) (l2 : K.lookup f2 = some ⟨oc2, od2, .func (PySem.W.fnOf "next_rectangles" "next_rectangles" (defArgs (topS 3)) (defBody (topS 3)) (defScope (topS 3)) .none kV2 dc2 pm2 an2 cd2 ct2), sl2⟩) (c2 : PySem.W.codeIn K cd2 "next_rectangles" = true) (k2 : PySem.W.keepIn K (.ref f2) = true)
    {f3 : Addr} {od3 an3 : Option Addr} {sl3 : Array (Option Value)} {oc3 kV3 dc3 pm3 cd3 ct3 : Value}
    (a3 : PySem.W.nsIn K mainGlobals "all_ways" = some (some (.ref f3))) (l3 : K.lookup f3 = some ⟨oc3, od3, .func (PySem.W.fnOf "all_ways" "all_ways" (defArgs (topS 4)) (defBody (topS 4)) (defScope (topS 4)) .none kV3 dc3 pm3 an3 cd3 ct3), sl3⟩) (c3 : PySem.W.codeIn K cd3 "all_ways" = true) (k3 : PySem.W.keepIn K (.ref f3) = true)
    {f4 : Addr} {od4 an4 : Option Addr} {sl4 : Array (Option Value)} {oc4 kV4 dc4 pm4 cd4 ct4 : Value}
    (a4 : PySem.W.nsIn K mainGlobals "is_clear" = some (some (.ref f4))) (l4 : K.lookup f4 = some ⟨oc4, od4, .func (PySem.W.fnOf "is_clear" "is_clear" (defArgs (topS 5)) (defBody (topS 5)) (defScope (topS 5)) .none kV4 dc4 pm4 an4 cd4 ct4), sl4⟩) (c4 : PySem.W.codeIn K cd4 "is_clear" = true) (k4 : PySem.W.keepIn K (.ref f4) = true)
    {f5 : Addr} {od5 an5 : Option Addr} {sl5 : Array (Option Value)} {oc5 kV5 dc5 pm5 cd5 ct5 : Value}
    (a5 : PySem.W.nsIn K mainGlobals "parts_at" = some (some (.ref f5))) (l5 : K.lookup f5 = some ⟨oc5, od5, .func (PySem.W.fnOf "parts_at" "parts_at" (defArgs (topS 6)) (defBody (topS 6)) (defScope (topS 6)) .none kV5 dc5 pm5 an5 cd5 ct5), sl5⟩) (c5 : PySem.W.codeIn K cd5 "parts_at" = true) (k5 : PySem.W.keepIn K (.ref f5) = true)
    {f6 : Addr} {od6 an6 : Option Addr} {sl6 : Array (Option Value)} {oc6 kV6 dc6 pm6 cd6 ct6 : Value}
    (a6 : PySem.W.nsIn K mainGlobals "first_clear" = some (some (.ref f6))) (l6 : K.lookup f6 = some ⟨oc6, od6, .func (PySem.W.fnOf "first_clear" "first_clear" (defArgs (topS 7)) (defBody (topS 7)) (defScope (topS 7)) .none kV6 dc6 pm6 an6 cd6 ct6), sl6⟩) (c6 : PySem.W.codeIn K cd6 "first_clear" = true) (k6 : PySem.W.keepIn K (.ref f6) = true)
    {f7 : Addr} {od7 an7 : Option Addr} {sl7 : Array (Option Value)} {oc7 kV7 dc7 pm7 cd7 ct7 : Value}
    (a7 : PySem.W.nsIn K mainGlobals "comes_from_edge_to_edge" = some (some (.ref f7))) (l7 : K.lookup f7 = some ⟨oc7, od7, .func (PySem.W.fnOf "comes_from_edge_to_edge" "comes_from_edge_to_edge" (defArgs (topS 8)) (defBody (topS 8)) (defScope (topS 8)) .none kV7 dc7 pm7 an7 cd7 ct7), sl7⟩) (c7 : PySem.W.codeIn K cd7 "comes_from_edge_to_edge" = true) (k7 : PySem.W.keepIn K (.ref f7) = true)
    {f8 : Addr} {od8 an8 : Option Addr} {sl8 : Array (Option Value)} {oc8 kV8 dc8 pm8 cd8 ct8 : Value}
    (a8 : PySem.W.nsIn K mainGlobals "count_tree_cuttings" = some (some (.ref f8))) (l8 : K.lookup f8 = some ⟨oc8, od8, .func (PySem.W.fnOf "count_tree_cuttings" "count_tree_cuttings" (defArgs (topS 9)) (defBody (topS 9)) (defScope (topS 9)) .none kV8 dc8 pm8 an8 cd8 ct8), sl8⟩) (c8 : PySem.W.codeIn K cd8 "count_tree_cuttings" = true) (k8 : PySem.W.keepIn K (.ref f8) = true)
    {f9 : Addr} {od9 an9 : Option Addr} {sl9 : Array (Option Value)} {oc9 kV9 dc9 pm9 cd9 ct9 : Value}
    (a9 : PySem.W.nsIn K mainGlobals "_law_draws" = some (some (.ref f9))) (l9 : K.lookup f9 = some ⟨oc9, od9, .func (PySem.W.fnOf "_law_draws" "_law_draws" (defArgs (topS 11)) (defBody (topS 11)) (defScope (topS 11)) .none kV9 dc9 pm9 an9 cd9 ct9), sl9⟩) (c9 : PySem.W.codeIn K cd9 "_law_draws" = true) (k9 : PySem.W.keepIn K (.ref f9) = true)
    {f10 : Addr} {od10 an10 : Option Addr} {sl10 : Array (Option Value)} {oc10 kV10 dc10 pm10 cd10 ct10 : Value}
    (a10 : PySem.W.nsIn K mainGlobals "_law_is_number" = some (some (.ref f10))) (l10 : K.lookup f10 = some ⟨oc10, od10, .func (PySem.W.fnOf "_law_is_number" "_law_is_number" (defArgs (topS 12)) (defBody (topS 12)) (defScope (topS 12)) .none kV10 dc10 pm10 an10 cd10 ct10), sl10⟩) (c10 : PySem.W.codeIn K cd10 "_law_is_number" = true) (k10 : PySem.W.keepIn K (.ref f10) = true)
    {f11 : Addr} {od11 an11 : Option Addr} {sl11 : Array (Option Value)} {oc11 kV11 dc11 pm11 cd11 ct11 : Value}
    (a11 : PySem.W.nsIn K mainGlobals "_law_mark" = some (some (.ref f11))) (l11 : K.lookup f11 = some ⟨oc11, od11, .func (PySem.W.fnOf "_law_mark" "_law_mark" (defArgs (topS 13)) (defBody (topS 13)) (defScope (topS 13)) .none kV11 dc11 pm11 an11 cd11 ct11), sl11⟩) (c11 : PySem.W.codeIn K cd11 "_law_mark" = true) (k11 : PySem.W.keepIn K (.ref f11) = true)
    {f12 : Addr} {od12 an12 : Option Addr} {sl12 : Array (Option Value)} {oc12 kV12 dc12 pm12 cd12 ct12 : Value}
    (a12 : PySem.W.nsIn K mainGlobals "_law_ways" = some (some (.ref f12))) (l12 : K.lookup f12 = some ⟨oc12, od12, .func (PySem.W.fnOf "_law_ways" "_law_ways" (defArgs (topS 14)) (defBody (topS 14)) (defScope (topS 14)) .none kV12 dc12 pm12 an12 cd12 ct12), sl12⟩) (c12 : PySem.W.codeIn K cd12 "_law_ways" = true) (k12 : PySem.W.keepIn K (.ref f12) = true)
    {f13 : Addr} {od13 an13 : Option Addr} {sl13 : Array (Option Value)} {oc13 kV13 dc13 pm13 cd13 ct13 : Value}
    (a13 : PySem.W.nsIn K mainGlobals "_law_comes" = some (some (.ref f13))) (l13 : K.lookup f13 = some ⟨oc13, od13, .func (PySem.W.fnOf "_law_comes" "_law_comes" (defArgs (topS 15)) (defBody (topS 15)) (defScope (topS 15)) .none kV13 dc13 pm13 an13 cd13 ct13), sl13⟩) (c13 : PySem.W.codeIn K cd13 "_law_comes" = true) (k13 : PySem.W.keepIn K (.ref f13) = true)
    {f14 : Addr} {od14 an14 : Option Addr} {sl14 : Array (Option Value)} {oc14 kV14 dc14 pm14 cd14 ct14 : Value}
    (a14 : PySem.W.nsIn K mainGlobals "_law_told" = some (some (.ref f14))) (l14 : K.lookup f14 = some ⟨oc14, od14, .func (PySem.W.fnOf "_law_told" "_law_told" (defArgs (topS 16)) (defBody (topS 16)) (defScope (topS 16)) .none kV14 dc14 pm14 an14 cd14 ct14), sl14⟩) (c14 : PySem.W.codeIn K cd14 "_law_told" = true) (k14 : PySem.W.keepIn K (.ref f14) = true)
    {f15 : Addr} {od15 an15 : Option Addr} {sl15 : Array (Option Value)} {oc15 kV15 dc15 pm15 cd15 ct15 : Value}
    (a15 : PySem.W.nsIn K mainGlobals "law" = some (some (.ref f15))) (l15 : K.lookup f15 = some ⟨oc15, od15, .func (PySem.W.fnOf "law" "law" (defArgs (topS 17)) (defBody (topS 17)) (defScope (topS 17)) .none kV15 dc15 pm15 an15 cd15 ct15), sl15⟩) (c15 : PySem.W.codeIn K cd15 "law" = true) (k15 : PySem.W.keepIn K (.ref f15) = true)
    (z0 : PySem.W.nsIn K mainGlobals "len" = some none)
    (z1 : PySem.W.nsIn K mainGlobals "abs" = some none)
    (z2 : PySem.W.nsIn K mainGlobals "int" = some none)
    (z3 : PySem.W.nsIn K mainGlobals "min" = some none)
    (z4 : PySem.W.nsIn K mainGlobals "max" = some none)
    (z5 : PySem.W.nsIn K mainGlobals "sum" = some none)
    (z6 : PySem.W.nsIn K mainGlobals "sorted" = some none)
    (z7 : PySem.W.nsIn K mainGlobals "list" = some none)
    (z8 : PySem.W.nsIn K mainGlobals "tuple" = some none)
    (z9 : PySem.W.nsIn K mainGlobals "isinstance" = some none)
    (z10 : PySem.W.nsIn K mainGlobals "bool" = some none)
    (z11 : PySem.W.nsIn K mainGlobals "str" = some none)
    (z12 : PySem.W.nsIn K mainGlobals "range" = some none)
    (z13 : PySem.W.nsIn K mainGlobals "repr" = some none)
    (z14 : PySem.W.nsIn K mainGlobals "set" = some none)
    (C : CstOk K mg cst) :
    ∃ fd : FuncData, (∀ (s : Shared) (v : Value), BindsTo s fd ⟨[v], []⟩ [("script", v)]) ∧ ∀ base : Heap, K.In base → base.Ns mainGlobals mg → FnG l.prog w K mg base 16 fa fd ["script"] (spF K f_law) := by
  have e := hfa.symm.trans (PySem.W.mg_of X G a15)
  cases e
  have blt : ∀ x ∈ builtinsUsed, mg x = none := builtins_none (PySem.W.mg_none_of X G z0) (PySem.W.mg_none_of X G z1) (PySem.W.mg_none_of X G z2) (PySem.W.mg_none_of X G z3) (PySem.W.mg_none_of X G z4) (PySem.W.mg_none_of X G z5) (PySem.W.mg_none_of X G z6) (PySem.W.mg_none_of X G z7) (PySem.W.mg_none_of X G z8) (PySem.W.mg_none_of X G z9) (PySem.W.mg_none_of X G z10) (PySem.W.mg_none_of X G z11) (PySem.W.mg_none_of X G z12) (PySem.W.mg_none_of X G z13) (PySem.W.mg_none_of X G z14)
  have T0 : ∀ base : Heap, TabOk l.prog w K mg base 0 t_0 := fun _ => TabOk.nil
  have F0 := fun_mk (st := topS 1) l0 c0 k0
  have B0 := F0.binds (ps := ["m", "cells", "filled"]) fun _ _ _ _ _ _ us hl => match us, hl with | [_, _, _], _ => rfl
  have T1 : ∀ base : Heap, TabOk l.prog w K mg base 1 t_1 := fun base => TabOk.more (T0 base) C blt (PySem.W.mg_of X G a0) F0 B0 sc_first_empty cm_first_empty rfl
  have F1 := fun_mk (st := topS 2) l1 c1 k1
  have B1 := F1.binds (ps := ["m", "x", "y", "w", "h"]) fun _ _ _ _ _ _ us hl => match us, hl with | [_, _, _, _, _], _ => rfl
  have T2 : ∀ base : Heap, TabOk l.prog w K mg base 2 t_2 := fun base => TabOk.more (T1 base) C blt (PySem.W.mg_of X G a1) F1 B1 sc_mark_of cm_mark_of rfl
  have F2 := fun_mk (st := topS 3) l2 c2 k2
  have B2 := F2.binds (ps := ["m", "n", "filled"]) fun _ _ _ _ _ _ us hl => match us, hl with | [_, _, _], _ => rfl
  have T3 : ∀ base : Heap, TabOk l.prog w K mg base 3 t_3 := fun base => TabOk.more (T2 base) C blt (PySem.W.mg_of X G a2) F2 B2 sc_next_rectangles cm_next_rectangles rfl
  have F3 := fun_mk (st := topS 4) l3 c3 k3
  have B3 := F3.binds (ps := ["m", "n"]) fun _ _ _ _ _ _ us hl => match us, hl with | [_, _], _ => rfl
  have T4 : ∀ base : Heap, TabOk l.prog w K mg base 4 t_4 := fun base => TabOk.more (T3 base) C blt (PySem.W.mg_of X G a3) F3 B3 sc_all_ways cm_all_ways rfl
  have F4 := fun_mk (st := topS 5) l4 c4 k4
  have B4 := F4.binds (ps := ["way", "side", "line"]) fun _ _ _ _ _ _ us hl => match us, hl with | [_, _, _], _ => rfl
  have T5 : ∀ base : Heap, TabOk l.prog w K mg base 5 t_5 := fun base => TabOk.more (T4 base) C blt (PySem.W.mg_of X G a4) F4 B4 sc_is_clear cm_is_clear rfl
  have F5 := fun_mk (st := topS 6) l5 c5 k5
  have B5 := F5.binds (ps := ["way", "side", "line"]) fun _ _ _ _ _ _ us hl => match us, hl with | [_, _, _], _ => rfl
  have T6 : ∀ base : Heap, TabOk l.prog w K mg base 6 t_6 := fun base => TabOk.more (T5 base) C blt (PySem.W.mg_of X G a5) F5 B5 sc_parts_at cm_parts_at rfl
  have F6 := fun_mk (st := topS 7) l6 c6 k6
  have B6 := F6.binds (ps := ["way"]) fun _ _ _ _ _ _ us hl => match us, hl with | [_], _ => rfl
  have T7 : ∀ base : Heap, TabOk l.prog w K mg base 7 t_7 := fun base => TabOk.more (T6 base) C blt (PySem.W.mg_of X G a6) F6 B6 sc_first_clear cm_first_clear rfl
  have F7 := fun_mk (st := topS 8) l7 c7 k7
  have B7 := F7.binds (ps := ["way"]) fun _ _ _ _ _ _ us hl => match us, hl with | [_], _ => rfl
  have T8 : ∀ base : Heap, TabOk l.prog w K mg base 8 t_8 := fun base => TabOk.more (T7 base) C blt (PySem.W.mg_of X G a7) F7 B7 sc_comes_from_edge_to_edge cm_comes_from_edge_to_edge rfl
  have F8 := fun_mk (st := topS 9) l8 c8 k8
  have B8 := F8.binds (ps := ["m", "n"]) fun _ _ _ _ _ _ us hl => match us, hl with | [_, _], _ => rfl
  have T9 : ∀ base : Heap, TabOk l.prog w K mg base 9 t_9 := fun base => TabOk.more (T8 base) C blt (PySem.W.mg_of X G a8) F8 B8 sc_count_tree_cuttings cm_count_tree_cuttings rfl
  have F9 := fun_mk (st := topS 11) l9 c9 k9
  have B9 := F9.binds (ps := ["script", "many"]) fun _ _ _ _ _ _ us hl => match us, hl with | [_, _], _ => rfl
  have T10 : ∀ base : Heap, TabOk l.prog w K mg base 10 t_10 := fun base => TabOk.more (T9 base) C blt (PySem.W.mg_of X G a9) F9 B9 sc__law_draws cm__law_draws rfl
  have F10 := fun_mk (st := topS 12) l10 c10 k10
  have B10 := F10.binds (ps := ["value"]) fun _ _ _ _ _ _ us hl => match us, hl with | [_], _ => rfl
  have T11 : ∀ base : Heap, TabOk l.prog w K mg base 11 t_11 := fun base => TabOk.more (T10 base) C blt (PySem.W.mg_of X G a10) F10 B10 sc__law_is_number cm__law_is_number rfl
  have F11 := fun_mk (st := topS 13) l11 c11 k11
  have B11 := F11.binds (ps := ["m", "x", "y", "w", "h"]) fun _ _ _ _ _ _ us hl => match us, hl with | [_, _, _, _, _], _ => rfl
  have T12 : ∀ base : Heap, TabOk l.prog w K mg base 12 t_12 := fun base => TabOk.more (T11 base) C blt (PySem.W.mg_of X G a11) F11 B11 sc__law_mark cm__law_mark rfl
  have F12 := fun_mk (st := topS 14) l12 c12 k12
  have B12 := F12.binds (ps := ["m", "n"]) fun _ _ _ _ _ _ us hl => match us, hl with | [_, _], _ => rfl
  have T13 : ∀ base : Heap, TabOk l.prog w K mg base 13 t_13 := fun base => TabOk.more (T12 base) C blt (PySem.W.mg_of X G a12) F12 B12 sc__law_ways cm__law_ways rfl
  have F13 := fun_mk (st := topS 15) l13 c13 k13
  have B13 := F13.binds (ps := ["way"]) fun _ _ _ _ _ _ us hl => match us, hl with | [_], _ => rfl
  have T14 : ∀ base : Heap, TabOk l.prog w K mg base 14 t_14 := fun base => TabOk.more (T13 base) C blt (PySem.W.mg_of X G a13) F13 B13 sc__law_comes cm__law_comes rfl
  have F14 := fun_mk (st := topS 16) l14 c14 k14
  have B14 := F14.binds (ps := ["m", "n", "ways"]) fun _ _ _ _ _ _ us hl => match us, hl with | [_, _, _], _ => rfl
  have T15 : ∀ base : Heap, TabOk l.prog w K mg base 15 t_15 := fun base => TabOk.more (T14 base) C blt (PySem.W.mg_of X G a14) F14 B14 sc__law_told cm__law_told rfl
  have F15 := fun_mk (st := topS 17) l15 c15 k15
  exact ⟨PySem.W.fnOf "law" "law" (defArgs (topS 17)) (defBody (topS 17)) (defScope (topS 17)) .none kV15 dc15 pm15 an15 cd15 ct15, fun s v => .of_eq rfl, fun base _ _ => fn_ok F15 sc_law (T15 base) C blt cm_law⟩
end K88
open PySem PySem.W PyProof.Rows
set_option maxHeartbeats 0 in
theorem PySem.Challenge.cw_likesheets_k88_cuttings_from_edge_to_edg_holds : PySem.Challenge.rw_likesheets_k88_cuttings_from_edge_to_edg.Holds := by
  w_on; o_law; k_head; (case hw => w_witness2)
  k_fill
  refine PV.walk_ofG (l := PySem.Challenge.rw_likesheets_k88_cuttings_from_edge_to_edg) (n := 63) (k := 16) (x := "script") (sp := fun w => PV.spF _ K88.f_law) rfl (by decide) rfl ⟨rfl, by decide, by decide⟩ (fun w h Y => PySem.W.kIn_of Y) ?F (fun w H a ns hl _ hS => PV.spF_law (by kernel_rfl) hS (K88.law_true ns hl))
  case F =>
    intro w mg fa h KX G hmg
    refine' K88.all_mk KX G hmg ?a0 ?l0 ?c0 ?k0 ?a1 ?l1 ?c1 ?k1 ?a2 ?l2 ?c2 ?k2 ?a3 ?l3 ?c3 ?k3 ?a4 ?l4 ?c4 ?k4 ?a5 ?l5 ?c5 ?k5 ?a6 ?l6 ?c6 ?k6 ?a7 ?l7 ?c7 ?k7 ?a8 ?l8 ?c8 ?k8 ?a9 ?l9 ?c9 ?k9 ?a10 ?l10 ?c10 ?k10 ?a11 ?l11 ?c11 ?k11 ?a12 ?l12 ?c12 ?k12 ?a13 ?l13 ?c13 ?k13 ?a14 ?l14 ?c14 ?k14 ?a15 ?l15 ?c15 ?k15 ?z0 ?z1 ?z2 ?z3 ?z4 ?z5 ?z6 ?z7 ?z8 ?z9 ?z10 ?z11 ?z12 ?z13 ?z14 ?C
    (case a0 => k_is)
    (case l0 => k_is)
    (case c0 => k_is)
    (case k0 => k_is)
    (case a1 => k_is)
    (case l1 => k_is)
    (case c1 => k_is)
    (case k1 => k_is)
    (case a2 => k_is)
    (case l2 => k_is)
    (case c2 => k_is)
    (case k2 => k_is)
    (case a3 => k_is)
    (case l3 => k_is)
    (case c3 => k_is)
    (case k3 => k_is)
    (case a4 => k_is)
    (case l4 => k_is)
    (case c4 => k_is)
    (case k4 => k_is)
    (case a5 => k_is)
    (case l5 => k_is)
    (case c5 => k_is)
    (case k5 => k_is)
    (case a6 => k_is)
    (case l6 => k_is)
    (case c6 => k_is)
    (case k6 => k_is)
    (case a7 => k_is)
    (case l7 => k_is)
    (case c7 => k_is)
    (case k7 => k_is)
    (case a8 => k_is)
    (case l8 => k_is)
    (case c8 => k_is)
    (case k8 => k_is)
    (case a9 => k_is)
    (case l9 => k_is)
    (case c9 => k_is)
    (case k9 => k_is)
    (case a10 => k_is)
    (case l10 => k_is)
    (case c10 => k_is)
    (case k10 => k_is)
    (case a11 => k_is)
    (case l11 => k_is)
    (case c11 => k_is)
    (case k11 => k_is)
    (case a12 => k_is)
    (case l12 => k_is)
    (case c12 => k_is)
    (case k12 => k_is)
    (case a13 => k_is)
    (case l13 => k_is)
    (case c13 => k_is)
    (case k13 => k_is)
    (case a14 => k_is)
    (case l14 => k_is)
    (case c14 => k_is)
    (case k14 => k_is)
    (case a15 => k_is)
    (case l15 => k_is)
    (case c15 => k_is)
    (case k15 => k_is)
    (case z0 => k_is)
    (case z1 => k_is)
    (case z2 => k_is)
    (case z3 => k_is)
    (case z4 => k_is)
    (case z5 => k_is)
    (case z6 => k_is)
    (case z7 => k_is)
    (case z8 => k_is)
    (case z9 => k_is)
    (case z10 => k_is)
    (case z11 => k_is)
    (case z12 => k_is)
    (case z13 => k_is)
    (case z14 => k_is)
    (case C => exact PV.CstOk.nil)

