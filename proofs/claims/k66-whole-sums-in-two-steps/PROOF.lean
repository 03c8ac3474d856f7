import PyProof.Rows.All
import Wide.All
import OpenK.AllK
import Wide.FinOn
import PySem.Challenge.RW_oncestream_k66_whole_sums_in_two_steps
import HandS.TupSets
import KE.KDictKeyed
import KE.SortKeyHeap
import HandS.ForMost
import HandS.Star
import HandS.Lambda
import HandS.TupAny
import HandS.TupMul
import HandS.Style
import HandS.Walk
import HandS.DictComp
import HandS.Wide
import HandS.IsInst
import HandS.SortKw
import HandS.SetKeys
import KE.GoesMore
import KE.GoesEnum
import KE.KDictWalk
import KE.DatumOrd
import HandS.Defaults
import KE.KSortKey
import KE.SortData
import HandS.SetBool
import HandS.HeadHook2
import HandS.DictEq
import HandS.ListEq
import HandS.DeepEq
import HandS.EndTab
import KE.KNestM
import Wide.Loose
section
set_option Elab.async false
set_option linter.all false
/-! Sem: what the program's constructs do to plain data (no heap): the mirror's own words. -/
namespace Dl
open PySem

/-- a slot's state -/
inductive Sl where
  | un
  | dat (d : PyData)
  | lst (ds : List PyData)
  | dK (kvs : List (Str × PyData))
  | nd (kvs : List (NestedKey × PyData))
  | src
/-- the draws' source -/
structure Src where
  cells : List Int
  left : Int
  mixed : Int
  turn : Int
structure DEnv where
  sl : List Sl
  src : Option Src
abbrev M (α : Type) := DEnv → Option (α × DEnv)
inductive Fl where
  | next
  | brk
  | cont
  | ret (d : PyData)

def kvD (kvs : List (Str × PyData)) : PyData := .dict (kvs.map fun p => (PyData.str p.1, p.2))
def ndD (kvs : List (NestedKey × PyData)) : PyData := .dict (kvs.map fun p => (p.1.data, p.2))
/-- a slot read as data -/
def Sl.read : Sl → Option PyData
  | .dat d => some d
  | .lst ds => some (.list ds)
  | .dK kvs => some (kvD kvs)
  | .nd kvs => some (ndD kvs)
  | _ => none
def DEnv.put (ρ : DEnv) (i : Nat) (s : Sl) : DEnv := ⟨ρ.sl.set i s, ρ.src⟩
/-- what is read is known from then on -/
def DEnv.froz (ρ : DEnv) (i : Nat) (s : Sl) (d : PyData) : DEnv := match s with
  | .dat _ => ρ
  | _ => ρ.put i (.dat d)
def eVar (i : Nat) : M PyData := fun ρ => (ρ.sl[i]?).bind fun s => s.read.bind fun d => some (d, ρ.froz i s d)
def eC (d : PyData) : M PyData := fun ρ => some (d, ρ)
def eNo {α : Type} : M α := fun _ => none
def e1 (f : PyData → Option PyData) (a : M PyData) : M PyData := fun ρ => (a ρ).bind fun p => (f p.1).bind fun d => some (d, p.2)
def e2 (f : PyData → PyData → Option PyData) (a b : M PyData) : M PyData := fun ρ => (a ρ).bind fun p => (b p.2).bind fun q => (f p.1 q.1).bind fun d => some (d, q.2)
/-- argument lists -/
def aNil : M (List PyData) := fun ρ => some ([], ρ)
def aCons (a : M PyData) (r : M (List PyData)) : M (List PyData) := fun ρ => (a ρ).bind fun p => (r p.2).bind fun q => some (p.1 :: q.1, q.2)
/-- the items of a list or tuple -/
def itemsD : PyData → Option (List PyData)
  | .list ds => some ds
  | .tuple ds => some ds
  | _ => none
def aStar (a : M PyData) (r : M (List PyData)) : M (List PyData) := fun ρ => (a ρ).bind fun p => (itemsD p.1).bind fun xs => (r p.2).bind fun q => some (xs ++ q.1, q.2)
def small (n : Nat) : Bool := decide (n ≤ 100000)
def eTup (t : M (List PyData)) : M PyData := fun ρ => (t ρ).bind fun p => if small p.1.length then some (.tuple p.1, p.2) else none
/-- a new list as data -/
def eFz (t : M (List PyData)) : M PyData := fun ρ => (t ρ).bind fun p => some (.list p.1, p.2)
/-- a display: a new list -/
def lDisp (t : M (List PyData)) : M (List PyData) := fun ρ => (t ρ).bind fun p => if small p.1.length then some p else none
/-- tests -/
def tB (a : M PyData) : M Bool := fun ρ => (a ρ).bind fun p => match p.1 with
  | .bool b => some (b, p.2)
  | _ => none
def tAnd (a b : M Bool) : M Bool := fun ρ => (a ρ).bind fun p => if p.1 = true then b p.2 else some (false, p.2)
def tOr (a b : M Bool) : M Bool := fun ρ => (a ρ).bind fun p => if p.1 = true then some (true, p.2) else b p.2
def tNot (a : M Bool) : M Bool := fun ρ => (a ρ).bind fun p => some (!p.1, p.2)
def tYes : M Bool := fun ρ => some (true, ρ)
def eIf (t : M Bool) (a b : M PyData) : M PyData := fun ρ => (t ρ).bind fun p => if p.1 = true then a p.2 else b p.2
/-- and of two truths as a value -/
def eAnd (a b : M PyData) : M PyData := fun ρ => (a ρ).bind fun p => match p.1 with
  | .bool c => if c = true then b p.2 else some (.bool false, p.2)
  | _ => none

/-! ### keys -/
mutual
def toK : PyData → Option NestedKey
  | .none => some .none
  | .int i => some (.num i)
  | .str x => some (.text x)
  | .tuple ds => (toKs ds).bind fun ks => some (.tup ks)
  | .bool _ => none
  | .list _ => none
  | .dict _ => none
def toKs : List PyData → Option (List NestedKey)
  | [] => some []
  | d :: ds => (toK d).bind fun k => (toKs ds).bind fun ks => some (k :: ks)
end
/-- tuples alone may be a dict's key -/
def toKey (d : PyData) : Option NestedKey := (toK d).bind fun k => match k with
  | .tup ks => if decide ((NestedKey.tup ks).depth ≤ 8) then some (.tup ks) else none
  | _ => none
def shal (n : Nat) : Bool := decide (n ≤ 60)
/-- d == e -/
def eqKs (ds es : List PyData) : Option Bool := (toKs ds).bind fun ks => (toKs es).bind fun ls => if shal (NestedKey.depthAll ks) && shal (NestedKey.depthAll ls) then some (decide (ks = ls)) else none
def eqD : PyData → PyData → Option Bool
  | .int i, .int j => some (decide (i = j))
  | .str x, .str y => some (decide (x = y))
  | .tuple ds, .tuple es => eqKs ds es
  | .list ds, .list es => eqKs ds es
  | _, _ => none
def oB (f : PyData → PyData → Option Bool) (d e : PyData) : Option PyData := (f d e).bind fun b => some (.bool b)
def opEq : PyData → PyData → Option PyData := oB eqD
def opNe (d e : PyData) : Option PyData := (eqD d e).bind fun b => some (.bool (!b))
/-- x in a list or tuple -/
def inItems (d : PyData) (ds : List PyData) : Option Bool := (toK d).bind fun k => (toKs ds).bind fun ks => if shal k.depth && shal (NestedKey.depthAll ks) then some (ks.any fun l => decide (l = k)) else none
def opIn (d e : PyData) : Option PyData := (itemsD e).bind fun ds => (inItems d ds).bind fun b => some (.bool b)
def opNotIn (d e : PyData) : Option PyData := (itemsD e).bind fun ds => (inItems d ds).bind fun b => some (.bool (!b))
def opI (f : Int → Int → PyData) : PyData → PyData → Option PyData
  | .int i, .int j => some (f i j)
  | _, _ => none
def opLt := opI fun i j => .bool (decide (i < j))
def opLe := opI fun i j => .bool (decide (i ≤ j))
def opGt := opI fun i j => .bool (decide (j < i))
def opGe := opI fun i j => .bool (decide (j ≤ i))
def opSub := opI fun i j => .int (i - j)
def opAdd : PyData → PyData → Option PyData
  | .int i, .int j => some (.int (i + j))
  | .tuple xs, .tuple ys => if small (xs.length + ys.length) then some (.tuple (xs ++ ys)) else none
  | _, _ => none
/-- a tuple whose first item is a pair (text, x): it may go to dict() -/
def pairish : List PyData → Bool
  | .tuple [.str _, _] :: _ => true
  | _ => false
def fits64 (i : Int) : Bool := decide (-(2 ^ 64) < i) && decide (i < 2 ^ 64)
def opMul : PyData → PyData → Option PyData
  | .int i, .int j => if fits64 i || fits64 j then some (.int (i * j)) else none
  | .tuple xs, .int k => if decide (1 ≤ k) && decide (k ≤ 1000) && decide (xs.length ≤ 1000) && !xs.isEmpty && !pairish (List.replicate k.toNat xs).flatten then some (.tuple (List.replicate k.toNat xs).flatten) else none
  | _, _ => none
def opMod : PyData → PyData → Option PyData
  | .int i, .int j => if decide (0 < j) then some (.int (i % j)) else none
  | _, _ => none
def opPow : PyData → PyData → Option PyData
  | .int i, .int j => if decide (0 ≤ j) && decide (j ≤ 1000000) && decide (i.natAbs < 2 ^ 64) then some (.int (i ^ j.toNat)) else none
  | _, _ => none
def opNeg : PyData → Option PyData
  | .int i => some (.int (-i))
  | _ => none
/-- is None -/
def opIsN : PyData → Option PyData
  | .none => some (.bool true)
  | .bool _ | .int _ | .str _ | .list _ | .tuple _ | .dict _ => some (.bool false)
def opNotN : PyData → Option PyData
  | .none => some (.bool false)
  | .bool _ | .int _ | .str _ | .list _ | .tuple _ | .dict _ => some (.bool true)
def opIs (d e : PyData) : Option PyData := match e with
  | .none => opIsN d
  | .bool b => match d with
    | .bool a => some (.bool (decide (a = b)))
    | _ => none
  | _ => none
def opIsNot (d e : PyData) : Option PyData := match e with
  | .none => opNotN d
  | .bool b => match d with
    | .bool a => some (.bool (!decide (a = b)))
    | _ => none
  | _ => none
/-- a <= b < c -/
def eChain (f g : PyData → PyData → Option PyData) (a b c : M PyData) : M PyData := fun ρ => (a ρ).bind fun p => (b p.2).bind fun q => (f p.1 q.1).bind fun z => match z with
  | .bool true => (c q.2).bind fun r => (g q.1 r.1).bind fun d => some (d, r.2)
  | .bool false => some (.bool false, q.2)
  | _ => none
/-- isinstance(x, str), isinstance(x, int) -/
def isStr : PyData → Option PyData
  | .str _ => some (.bool true)
  | .none | .int _ => some (.bool false)
  | _ => none
def isInt : PyData → Option PyData
  | .int _ => some (.bool true)
  | .none | .str _ => some (.bool false)
  | _ => none
/-! ### items -/
def lookD (kvs : List (PyData × PyData)) (x : Str) : Option PyData := (kvs.find? fun p => match p.1 with
  | .str y => decide (y = x)
  | _ => false).map (·.2)
def ixD : PyData → PyData → Option PyData
  | .list ds, .int i => L2.atI ds i
  | .tuple ds, .int i => L2.atI ds i
  | .dict kvs, .str x => lookD kvs x
  | .str z, .int i => if small z.length then (L2.atI z.cps.toList i).bind fun c => some (.str ⟨#[c]⟩) else none
  | _, _ => none
def isL (ρ : DEnv) (i : Nat) : Bool := match ρ.sl[i]? with
  | some (.lst _) => true
  | _ => false
def isK (ρ : DEnv) (i : Nat) : Bool := match ρ.sl[i]? with
  | some (.dK _) => true
  | _ => false
def isN (ρ : DEnv) (i : Nat) : Bool := match ρ.sl[i]? with
  | some (.nd _) => true
  | _ => false
/-- x[i] of an owned list or dict, which stays owned -/
def eIxO (i : Nat) (a : M PyData) : M PyData := fun ρ => if isL ρ i || isK ρ i then (a ρ).bind fun p => (p.2.sl[i]?).bind fun s => match s with
  | .lst ds => (ixD (.list ds) p.1).bind fun d => some (d, p.2)
  | .dK kvs => (ixD (kvD kvs) p.1).bind fun d => some (d, p.2)
  | _ => none else none
def eLenO (i : Nat) : M PyData := fun ρ => (ρ.sl[i]?).bind fun s => match s with
  | .lst ds => some (.int ds.length, ρ)
  | _ => none
def valN (kvs : List (NestedKey × PyData)) (k : NestedKey) : Option PyData := (kvs.find? fun p => decide (p.1 = k)).map (·.2)
def putN (kvs : List (NestedKey × PyData)) (k : NestedKey) (v : PyData) : List (NestedKey × PyData) :=
  if kvs.any fun p => decide (p.1 = k) then kvs.map fun p => if p.1 = k then (p.1, v) else p else kvs ++ [(k, v)]
def putS (kvs : List (Str × PyData)) (k : Str) (v : PyData) : List (Str × PyData) :=
  if kvs.any fun p => decide (p.1 = k) then kvs.map fun p => if p.1 = k then (p.1, v) else p else kvs ++ [(k, v)]
/-- d.get(k, x), d owned with tuples as keys -/
def eGetN (i : Nat) (a x : M PyData) : M PyData := fun ρ => if isN ρ i then (a ρ).bind fun p => (x p.2).bind fun q => (q.2.sl[i]?).bind fun s => match s with
  | .nd kvs => (toKey p.1).bind fun k => some ((valN kvs k).getD q.1, q.2)
  | _ => none else none
/-- xs.pop(i), xs owned -/
def ePopO (i : Nat) (a : M PyData) : M PyData := fun ρ => if isL ρ i then (a ρ).bind fun p => (p.2.sl[i]?).bind fun s => match s, p.1 with
  | .lst ds, .int k => if decide (0 ≤ k) && decide (k < 2 ^ 63) then (ds[k.toNat]?).bind fun d => some (d, p.2.put i (.lst (ds.eraseIdx k.toNat))) else none
  | _, _ => none else none
/-- slices -/
def cutD (lo hi : Option Int) (ds : List PyData) : List PyData := (ds.drop (HT.sIx ds.length 0 lo)).take (HT.sIx ds.length ds.length hi - HT.sIx ds.length 0 lo)
def slT (lo hi : Option Int) : PyData → Option PyData
  | .tuple ds => some (.tuple (cutD lo hi ds))
  | _ => none
/-- xs[i:] of a list: a new list -/
def lFrom (a b : M PyData) : M (List PyData) := fun ρ => (a ρ).bind fun p => (b p.2).bind fun q => match p.1, q.1 with
  | .list ds, .int i => some (cutD (some i) none ds, q.2)
  | _, _ => none
/-! ### built-ins -/
def strsD : List PyData → Option (List Str)
  | [] => some []
  | .str x :: r => (strsD r).bind fun xs => some (x :: xs)
  | _ :: _ => none
/-- xs.index(x) of texts -/
def idxD : PyData → PyData → Option PyData
  | .list ds, .str x => (strsD ds).bind fun xs => (xs.findIdx? fun y => decide (y = x)).bind fun i => some (.int (i : Nat))
  | _, _ => none
/-- lists of bags: the same bags -/
def bagsD : List (PyData × PyData) → Option (List (NestedKey × Int))
  | [] => some []
  | (k, .int n) :: r => (toKey k).bind fun x => (bagsD r).bind fun q => some ((x, n) :: q)
  | _ :: _ => none
def sameBag (a b : List (PyData × PyData)) : Bool := match bagsD a, bagsD b with
  | some x, some y => decide (x.length = y.length) && x.all fun p => decide ((y.find? fun q => decide (q.1 = p.1)).map (·.2) = some p.2)
  | _, _ => false
def neBags : PyData → PyData → Option PyData
  | .list [.dict a, .dict b], .list [.dict c, .dict d] => if sameBag a c && sameBag b d then some (.bool false) else none
  | _, _ => none
def lenD : PyData → Option PyData
  | .list ds => some (.int ds.length)
  | .tuple ds => some (.int ds.length)
  | _ => none
def intsD : List PyData → Option (List Int)
  | [] => some []
  | .int i :: r => (intsD r).bind fun is => some (i :: is)
  | _ :: _ => none
def boolsD : List PyData → Option (List Bool)
  | [] => some []
  | .bool b :: r => (boolsD r).bind fun bs => some (b :: bs)
  | _ :: _ => none
def sumD : PyData → Option PyData
  | .list ds => (intsD ds).bind fun is => some (.int is.sum)
  | _ => none
def allD : PyData → Option PyData
  | .list ds => (boolsD ds).bind fun bs => some (.bool (bs.all id))
  | _ => none
def maxI : Int → List Int → Int
  | m, [] => m
  | m, x :: r => maxI (if x > m then x else m) r
def minI : Int → List Int → Int
  | m, [] => m
  | m, x :: r => minI (if x < m then x else m) r
def maxD : PyData → Option PyData
  | .list ds => (intsD ds).bind fun is => match is with
    | [] => none
    | m :: r => some (.int (maxI m r))
  | _ => none
def minD : PyData → Option PyData
  | .list ds => (intsD ds).bind fun is => match is with
    | [] => none
    | m :: r => some (.int (minI m r))
  | _ => none
/-- max(xs, default=n), min(xs, default=n) -/
def maxDf : PyData → PyData → Option PyData
  | .list ds, .int n => (intsD ds).bind fun is => match is with
    | [] => some (.int n)
    | m :: r => some (.int (maxI m r))
  | _, _ => none
def minDf : PyData → PyData → Option PyData
  | .list ds, .int n => (intsD ds).bind fun is => match is with
    | [] => some (.int n)
    | m :: r => some (.int (minI m r))
  | _, _ => none
def max2 : PyData → PyData → Option PyData := opI fun i j => .int (if j > i then j else i)
def min2 : PyData → PyData → Option PyData := opI fun i j => .int (if j < i then j else i)
def intD : PyData → Option PyData
  | .int i => some (.int i)
  | _ => none
def tupD : PyData → Option PyData
  | .list ds => some (.tuple ds)
  | .tuple ds => some (.tuple ds)
  | _ => none
/-- list(x): a new list -/
def lList (a : M PyData) : M (List PyData) := fun ρ => (a ρ).bind fun p => (itemsD p.1).bind fun ds => some (ds, p.2)
/-- [x] * k -/
def lRep (a : M (List PyData)) (b : M PyData) : M (List PyData) := fun ρ => (a ρ).bind fun p => (b p.2).bind fun q => match q.1 with
  | .int k => if decide (0 ≤ k) && decide (k ≤ 1000) && decide (p.1.length ≤ 1000) then some ((List.replicate k.toNat p.1).flatten, q.2) else none
  | _ => none
/-- xs + ys: a new list -/
def lAdd (a b : M PyData) : M (List PyData) := fun ρ => (a ρ).bind fun p => (b p.2).bind fun q => match p.1, q.1 with
  | .list xs, .list ys => if small (xs.length + ys.length) then some (xs ++ ys, q.2) else none
  | _, _ => none
/-- dict(x): of a tuple of pairs with unlike texts -/
def pairsD : List PyData → Option (List (Str × PyData))
  | [] => some []
  | .tuple [.str x, d] :: r => (pairsD r).bind fun ps => some ((x, d) :: ps)
  | _ :: _ => none
def mergeS (kvs more : List (Str × PyData)) : List (Str × PyData) := more.foldl (fun acc kv => putS acc kv.1 kv.2) kvs
def dictD : PyData → Option PyData
  | .tuple ds => if pairish ds && small ds.length then (pairsD ds).bind fun ps => some (kvD (mergeS [] ps)) else none
  | _ => none
/-- a display {"a": x, ..} -/
def ePairs : List (Str × M PyData) → M (List (Str × PyData))
  | [] => fun ρ => some ([], ρ)
  | (k, a) :: r => fun ρ => (a ρ).bind fun p => (ePairs r p.2).bind fun q => some ((k, p.1) :: q.1, q.2)
def eDisp (ps : List (Str × M PyData)) : M PyData := fun ρ => (ePairs ps ρ).bind fun p => if decide (p.1.length ≤ 15) then some (kvD (mergeS [] p.1), p.2) else none
/-! ### calls -/
def eCall (m : List PyData → Option PyData) (t : M (List PyData)) : M PyData := fun ρ => (t ρ).bind fun p => (m p.1).bind fun d => some (d, p.2)
def isS (ρ : DEnv) (i : Nat) : Bool := match ρ.sl[i]? with
  | some .src => true
  | _ => false
/-- a call whose first argument is the source, in slot i -/
def eCallS (i : Nat) (m : List PyData → Src → Option (PyData × Src)) (t : M (List PyData)) : M PyData := fun ρ => if isS ρ i then (t ρ).bind fun p => p.2.src.bind fun S => (m p.1 S).bind fun q => some (q.1, ⟨p.2.sl, some q.2⟩) else none
mutual
def noDict : PyData → Bool
  | .dict _ => false
  | .list ds => noDicts ds
  | .tuple ds => noDicts ds
  | .none | .bool _ | .int _ | .str _ => true
def noDicts : List PyData → Bool
  | [] => true
  | d :: ds => noDict d && noDicts ds
end
def Sl.own : Sl → Bool
  | .lst _ => true
  | .dK _ => true
  | .nd _ => true
  | _ => false
/-- nothing but slot i owns -/
def alone (ρ : DEnv) (i : Nat) : Bool := ρ.src.isNone && (List.range ρ.sl.length).all fun j => decide (j = i) || !(ρ.sl.getD j .un).own
/-- e, while what slot i owns is read, not written -/
def eLend (i : Nat) (a : M PyData) : M PyData := fun ρ => (ρ.sl[i]?).bind fun s => match s with
  | .dK kvs => (a (ρ.put i (.dat (kvD kvs)))).bind fun p => if noDict p.1 && alone ρ i then some (p.1, ρ) else none
  | _ => none
/-! ### targets -/
abbrev Asg := PyData → Option (List PyData)
def aName : Asg := fun d => some [d]
def aTups : List Asg → List PyData → Option (List PyData)
  | [], [] => some []
  | f :: fs, d :: ds => (f d).bind fun xs => (aTups fs ds).bind fun ys => some (xs ++ ys)
  | _, _ => none
def aTup (fs : List Asg) : Asg := fun d => match d with
  | .tuple ds => aTups fs ds
  | _ => none
def putAll : List Nat → List PyData → DEnv → DEnv
  | i :: is, d :: ds, ρ => putAll is ds (ρ.put i (.dat d))
  | _, _, ρ => ρ
def asgM (ix : List Nat) (f : Asg) (d : PyData) (ρ : DEnv) : Option DEnv := (f d).bind fun ds => some (putAll ix ds ρ)
/-! ### what is walked -/
def iDat (a : M PyData) : M (List PyData) := fun ρ => (a ρ).bind fun p => (itemsD p.1).bind fun ds => some (ds, p.2)
def upFrom (lo : Int) : Nat → List PyData
  | 0 => []
  | n + 1 => .int lo :: upFrom (lo + 1) n
def fits62 (i : Int) : Bool := decide (-(2 ^ 62) ≤ i) && decide (i < 2 ^ 62)
def iRange (a : M PyData) : M (List PyData) := fun ρ => (a ρ).bind fun p => match p.1 with
  | .int n => if fits62 n then some (upFrom 0 n.toNat, p.2) else none
  | _ => none
/-- range(i, j, c), c below 0 -/
def downTo (lo c : Int) : Nat → List PyData
  | 0 => []
  | n + 1 => .int lo :: downTo (lo + c) c n
def turnsDown (i j c : Int) : Nat := if i ≤ j then 0 else ((i - j - 1) / (-c) + 1).toNat
def iRange3 (a b c : M PyData) : M (List PyData) := fun ρ => (a ρ).bind fun p => (b p.2).bind fun q => (c q.2).bind fun r => match p.1, q.1, r.1 with
  | .int i, .int j, .int k => if decide (k < 0) && decide (-1073741824 < k) && decide (-(2 ^ 60) ≤ i) && decide (i < 2 ^ 60) && decide (-(2 ^ 60) ≤ j) && decide (j < 2 ^ 60) then some (downTo i k (turnsDown i j k), r.2) else none
  | _, _, _ => none
def numFrom (n : Int) : List PyData → List PyData
  | [] => []
  | d :: ds => .tuple [.int n, d] :: numFrom (n + 1) ds
def iEnum (a : M PyData) : M (List PyData) := fun ρ => (a ρ).bind fun p => (itemsD p.1).bind fun ds => some (numFrom 0 ds, p.2)
def iItems (a : M PyData) : M (List PyData) := fun ρ => (a ρ).bind fun p => match p.1 with
  | .dict kvs => if kvs.all fun kv => !pairish [kv.1, kv.2] then some (kvs.map fun kv => .tuple [kv.1, kv.2], p.2) else none
  | _ => none
/-! ### comprehensions -/
def wipeE (vs : List Nat) (ρ : DEnv) : DEnv := vs.foldr (fun v r => r.put v .un) ρ
def lcGo (ix : List Nat) (f : Asg) (vs : List Nat) (t : M Bool) (a : M PyData) : List PyData → List PyData → M (List PyData)
  | [], acc => fun ρ => some (acc, ρ)
  | d :: ds, acc => fun ρ => (asgM ix f d (wipeE vs ρ)).bind fun ρ1 => (t ρ1).bind fun p => if p.1 = true then (a p.2).bind fun q => lcGo ix f vs t a ds (acc ++ [q.1]) q.2 else lcGo ix f vs t a ds acc p.2
/-- the slots of the block's own names are as they were -/
def keepSlots (vs : List Nat) (ρ ρ' : DEnv) : DEnv := ⟨vs.foldr (fun v l => l.set v (ρ.sl.getD v .un)) ρ'.sl, ρ'.src⟩
def ownFree (vs : List Nat) (ρ : DEnv) : Bool := vs.all fun v => match ρ.sl[v]? with
  | some .un => true
  | some (.dat _) => true
  | none => true
  | _ => false
def lComp (it : M (List PyData)) (ix : List Nat) (f : Asg) (vs : List Nat) (t : M Bool) (a : M PyData) : M (List PyData) := fun ρ => (it ρ).bind fun p =>
  if ownFree vs p.2 && small p.1.length then (lcGo ix f vs t a p.1 [] p.2).bind fun q => some (q.1, keepSlots vs p.2 q.2) else none
/-- {k: v for ..}, the keys texts -/
def dcGo (ix : List Nat) (f : Asg) (vs : List Nat) (k a : M PyData) : List PyData → List (Str × PyData) → M (List (Str × PyData))
  | [], acc => fun ρ => some (acc, ρ)
  | d :: ds, acc => fun ρ => (asgM ix f d (wipeE vs ρ)).bind fun ρ1 => (k ρ1).bind fun p => (a p.2).bind fun q => match p.1 with
    | .str x => dcGo ix f vs k a ds (putS acc x q.1) q.2
    | _ => none
def dComp (it : M (List PyData)) (ix : List Nat) (f : Asg) (vs : List Nat) (k a : M PyData) : M PyData := fun ρ => (it ρ).bind fun p =>
  if ownFree vs p.2 && small p.1.length then (dcGo ix f vs k a p.1 [] p.2).bind fun q => some (kvD q.1, keepSlots vs p.2 q.2) else none
/-- sorted(xs, key=m) -/
def keysD (m : List PyData → Option PyData) : List PyData → Option (List PyData)
  | [] => some []
  | d :: ds => (m [d]).bind fun k => (keysD m ds).bind fun ks => some (k :: ks)
def alikeOk (ks : List PyData) : Bool := (ks.all fun a => ks.all fun b => PySem.W.alike a b) && (ks.all fun k => match k with
  | .tuple (_ :: _) => true
  | _ => false) && ks.all fun k => shal k.depth && (toK k).isSome
def lSort (m : List PyData → Option PyData) (a : M PyData) : M (List PyData) := fun ρ => (a ρ).bind fun p => match p.1 with
  | .list ds => (keysD m ds).bind fun ks => if small ds.length && alikeOk ks then some (((ds.zip ks).mergeSort (PySem.W.dataLe false fun q => q.2)).map (·.1), p.2) else none
  | _ => none
/-! ### statements -/
abbrev G := M Fl
def sNext : G := fun ρ => some (.next, ρ)
def sSeq (a b : G) : G := fun ρ => (a ρ).bind fun p => match p.1 with
  | .next => b p.2
  | f => some (f, p.2)
def sSet (ix : List Nat) (f : Asg) (a : M PyData) : G := fun ρ => (a ρ).bind fun p => (asgM ix f p.1 p.2).bind fun ρ' => some (.next, ρ')
/-- what a name gets: data, or a new list or dict of its own -/
def vD (a : M PyData) : M Sl := fun ρ => (a ρ).bind fun p => some (.dat p.1, p.2)
def vL (a : M (List PyData)) : M Sl := fun ρ => (a ρ).bind fun p => some (.lst p.1, p.2)
def vK : M Sl := fun ρ => some (.dK [], ρ)
def vN : M Sl := fun ρ => some (.nd [], ρ)
def sSetV (i : Nat) (a : M Sl) : G := fun ρ => (a ρ).bind fun p => some (.next, p.2.put i p.1)
/-- two at once: x, y = a, b -/
def sPar (i j : Nat) (a b : M Sl) : G := fun ρ => (a ρ).bind fun p => (b p.2).bind fun q => some (.next, (q.2.put i p.1).put j q.1)
def sApp (i : Nat) (a : M PyData) : G := fun ρ => if isL ρ i then (a ρ).bind fun p => (p.2.sl[i]?).bind fun s => match s with
  | .lst ds => if small ds.length then some (.next, p.2.put i (.lst (ds ++ [p.1]))) else none
  | _ => none else none
/-- d[k] = v: v first -/
def sPutK (i : Nat) (k v : M PyData) : G := fun ρ => (v ρ).bind fun q => if isK q.2 i = false then none else (k q.2).bind fun p => (p.2.sl[i]?).bind fun s => match s, p.1 with
  | .dK kvs, .str x => if small kvs.length then some (.next, p.2.put i (.dK (putS kvs x q.1))) else none
  | _, _ => none
def sPutN (i : Nat) (k v : M PyData) : G := fun ρ => (v ρ).bind fun q => if isN q.2 i = false then none else (k q.2).bind fun p => (p.2.sl[i]?).bind fun s => match s with
  | .nd kvs => (toKey p.1).bind fun x => if small kvs.length then some (.next, p.2.put i (.nd (putN kvs x q.1))) else none
  | _ => none
def sExpr (a : M PyData) : G := fun ρ => (a ρ).bind fun p => some (.next, p.2)
def sRet (a : M PyData) : G := fun ρ => (a ρ).bind fun p => some (.ret p.1, p.2)
def sIf (t : M Bool) (a b : G) : G := fun ρ => (t ρ).bind fun p => if p.1 = true then a p.2 else b p.2
def forGo (ix : List Nat) (f : Asg) (b : G) : List PyData → G
  | [] => fun ρ => some (.next, ρ)
  | d :: ds => fun ρ => (asgM ix f d ρ).bind fun ρ1 => (b ρ1).bind fun p => match p.1 with
    | .next => forGo ix f b ds p.2
    | .cont => forGo ix f b ds p.2
    | .brk => some (.next, p.2)
    | .ret d => some (.ret d, p.2)
def sFor (it : M (List PyData)) (ix : List Nat) (f : Asg) (b : G) : G := fun ρ => (it ρ).bind fun p => forGo ix f b p.1 p.2
/-! ### defs -/
def startE (n : Nat) (ss : List Sl) (S : Option Src) : DEnv := ⟨ss ++ List.replicate (n - ss.length) .un, S⟩
def runF (ar n : Nat) (g : G) (ds : List PyData) : Option PyData := if ds.length = ar then (g (startE n (ds.map .dat) none)).bind fun p => match p.1 with
  | .ret d => some d
  | _ => none else none
/-- a def whose first parameter is the source -/
def runS (ar n : Nat) (g : G) (ds : List PyData) (S : Src) : Option (PyData × Src) := if ds.length + 1 = ar then (g (startE n (.src :: ds.map .dat) (some S))).bind fun p => match p.1 with
  | .ret d => p.2.src.bind fun S' => some (d, S')
  | _ => none else none
/-- a lambda's body -/
def runE (ar n : Nat) (a : M PyData) (ds : List PyData) : Option PyData := if ds.length = ar then (a (startE n (ds.map .dat) none)).bind fun p => some p.1 else none
end Dl
end
section
set_option Elab.async false
set_option linter.all false
set_option autoImplicit false
set_option maxRecDepth 100000
/-! Core: data laid in the abstract heap, environments, the judgements. -/
namespace Dl
open PySem PySem.Spec PyProof.Rows L2

/-! ### what never changes -/
def Imm : HO → Prop
  | .tup _ => True
  | .frz _ _ => True
  | _ => False
def Ext (H H' : Hp) : Prop := ∀ b o, H b = some o → Imm o → H' b = some o
theorem Ext.refl (H : Hp) : Ext H H := fun _ _ h _ => h
theorem Ext.trans {H H1 H2 : Hp} (a : Ext H H1) (b : Ext H1 H2) : Ext H H2 := fun c o h i => b c o (a c o h i) i
theorem Ext.of {H H' : Hp} (e : Same H H') : Ext H H' := fun b o h _ => e b o h
/-- a dict whose keys are tuples: the keys, where they stand, the values -/
abbrev NEs := List (NestedKey × Addr × V)
def ndO (P : Program) (w : World) (a : Addr) (es : NEs) : HO := .ext fun h => ∃ us : List (NestedKey × Addr × Value), Paired (fun p q => p.1 = q.1 ∧ p.2.1 = q.2.1 ∧ RelV p.2.2 q.2.2) es us ∧
  ∃ o des ep, h.get? a = some o ∧ o.ExactDict ∧ o.data = .dict des ep ∧ des.toList = us.map (entryOfKey (nestedKind P w)) ∧ (us.map (·.1)).Nodup ∧ (a == sysModules) = false ∧ es.length ≤ sizeLine ∧ ∀ e ∈ us, e.1.depth ≤ 8
mutual
inductive At (P : Program) (w : World) (H : Hp) : V → PyData → Prop
  | non : At P w H .non .none
  | bl (b : Bool) : At P w H (.bl b) (.bool b)
  | int (i : Int) : At P w H (.int i) (.int i)
  | str (x : Str) : At P w H (.str x) (.str x)
  | lst {a : Addr} {o : Obj} {xs : List V} {ds : List PyData} : H a = some (.frz o (.lst xs)) → AtAll P w H xs ds → At P w H (.ref a) (.list ds)
  | tup {a : Addr} {xs : List V} {ds : List PyData} : H a = some (.tup xs) → pairish ds = false → AtAll P w H xs ds → At P w H (.ref a) (.tuple ds)
  | tupP {a : Addr} {o : Obj} {xs : List V} {ds : List PyData} : H a = some (.frz o (.tup xs)) → o.dict = none → AtAll P w H xs ds → At P w H (.ref a) (.tuple ds)
  | dK {a : Addr} {o : Obj} {kvs : List (Key × V)} {ds : List (PyData × PyData)} : H a = some (.frz o (.dK kvs)) → AtKs P w H kvs ds → At P w H (.ref a) (.dict ds)
  | nd {a : Addr} {o : Obj} {es : NEs} {ds : List (PyData × PyData)} : H a = some (.frz o (ndO P w a es)) → AtEs P w H es ds → At P w H (.ref a) (.dict ds)
inductive AtAll (P : Program) (w : World) (H : Hp) : List V → List PyData → Prop
  | nil : AtAll P w H [] []
  | cons {v : V} {vs : List V} {d : PyData} {ds : List PyData} : At P w H v d → AtAll P w H vs ds → AtAll P w H (v :: vs) (d :: ds)
inductive AtKs (P : Program) (w : World) (H : Hp) : List (Key × V) → List (PyData × PyData) → Prop
  | nil : AtKs P w H [] []
  | cons {x : Str} {v : V} {vs : List (Key × V)} {d : PyData} {ds : List (PyData × PyData)} : At P w H v d → AtKs P w H vs ds → AtKs P w H ((.inr x, v) :: vs) ((.str x, d) :: ds)
inductive AtEs (P : Program) (w : World) (H : Hp) : NEs → List (PyData × PyData) → Prop
  | nil : AtEs P w H [] []
  | cons {k : NestedKey} {a : Addr} {v : V} {vs : NEs} {d : PyData} {ds : List (PyData × PyData)} : At P w H (.ref a) k.data → At P w H v d → AtEs P w H vs ds → AtEs P w H ((k, a, v) :: vs) ((k.data, d) :: ds)
end
section
variable {P : Program} {w : World} {H H' : Hp}
mutual
theorem At.ext (e : Ext H H') : ∀ {v : V} {d : PyData}, At P w H v d → At P w H' v d
  | _, _, .non => .non
  | _, _, .bl b => .bl b
  | _, _, .int i => .int i
  | _, _, .str x => .str x
  | _, _, .lst h a => .lst (e _ _ h True.intro) (AtAll.ext e a)
  | _, _, .tup h n a => .tup (e _ _ h True.intro) n (AtAll.ext e a)
  | _, _, .tupP h n a => .tupP (e _ _ h True.intro) n (AtAll.ext e a)
  | _, _, .dK h a => .dK (e _ _ h True.intro) (AtKs.ext e a)
  | _, _, .nd h a => .nd (e _ _ h True.intro) (AtEs.ext e a)
theorem AtAll.ext (e : Ext H H') : ∀ {v : List V} {d : List PyData}, AtAll P w H v d → AtAll P w H' v d
  | _, _, .nil => .nil
  | _, _, .cons a r => .cons (At.ext e a) (AtAll.ext e r)
theorem AtKs.ext (e : Ext H H') : ∀ {v : List (Key × V)} {d : List (PyData × PyData)}, AtKs P w H v d → AtKs P w H' v d
  | _, _, .nil => .nil
  | _, _, .cons a r => .cons (At.ext e a) (AtKs.ext e r)
theorem AtEs.ext (e : Ext H H') : ∀ {v : NEs} {d : List (PyData × PyData)}, AtEs P w H v d → AtEs P w H' v d
  | _, _, .nil => .nil
  | _, _, .cons k a r => .cons (At.ext e k) (At.ext e a) (AtEs.ext e r)
end
theorem AtAll.length : ∀ {vs : List V} {ds : List PyData}, AtAll P w H vs ds → vs.length = ds.length
  | _, _, .nil => rfl
  | _, _, .cons _ r => by rw [List.length_cons, List.length_cons, AtAll.length r]
theorem AtAll.get : ∀ {vs : List V} {ds : List PyData} {i : Nat} {d : PyData}, AtAll P w H vs ds → ds[i]? = some d → ∃ v, vs[i]? = some v ∧ At P w H v d
  | _, _, _, _, .nil, h => by simp at h
  | _, _, 0, _, .cons a _, h => by
    have e := Option.some.inj h
    subst e
    exact ⟨_, rfl, a⟩
  | _, _, i + 1, _, .cons _ r, h => AtAll.get (i := i) r h
theorem AtAll.get' : ∀ {vs : List V} {ds : List PyData} {i : Nat} {v : V}, AtAll P w H vs ds → vs[i]? = some v → ∃ d, ds[i]? = some d ∧ At P w H v d
  | _, _, _, _, .nil, h => by simp at h
  | _, _, 0, _, .cons a _, h => by
    have e := Option.some.inj h
    subst e
    exact ⟨_, rfl, a⟩
  | _, _, i + 1, _, .cons _ r, h => AtAll.get' (i := i) r h
theorem AtAll.append : ∀ {vs us : List V} {ds es : List PyData}, AtAll P w H vs ds → AtAll P w H us es → AtAll P w H (vs ++ us) (ds ++ es)
  | _, _, _, _, .nil, s => s
  | _, _, _, _, .cons a r, s => .cons a (AtAll.append r s)
theorem AtAll.snoc {vs : List V} {ds : List PyData} {v : V} {d : PyData} (r : AtAll P w H vs ds) (a : At P w H v d) : AtAll P w H (vs ++ [v]) (ds ++ [d]) := r.append (.cons a .nil)
theorem AtAll.drop : ∀ {vs : List V} {ds : List PyData} (n : Nat), AtAll P w H vs ds → AtAll P w H (vs.drop n) (ds.drop n)
  | _, _, 0, r => r
  | _, _, _ + 1, .nil => .nil
  | _, _, n + 1, .cons _ r => AtAll.drop n r
theorem AtAll.take : ∀ {vs : List V} {ds : List PyData} (n : Nat), AtAll P w H vs ds → AtAll P w H (vs.take n) (ds.take n)
  | _, _, 0, _ => .nil
  | _, _, _ + 1, .nil => .nil
  | _, _, n + 1, .cons a r => .cons a (AtAll.take n r)
theorem AtAll.erase : ∀ {vs : List V} {ds : List PyData} (n : Nat), AtAll P w H vs ds → AtAll P w H (vs.eraseIdx n) (ds.eraseIdx n)
  | _, _, _, .nil => .nil
  | _, _, 0, .cons _ r => r
  | _, _, n + 1, .cons a r => .cons a (AtAll.erase n r)
theorem AtAll.rep {vs : List V} {ds : List PyData} (r : AtAll P w H vs ds) : ∀ n : Nat, AtAll P w H (List.replicate n vs).flatten (List.replicate n ds).flatten
  | 0 => .nil
  | n + 1 => by
    rw [List.replicate_succ, List.replicate_succ, List.flatten_cons, List.flatten_cons]
    exact r.append (AtAll.rep r n)
theorem AtAll.ints : ∀ {vs : List V} {ds : List PyData} {is : List Int}, AtAll P w H vs ds → intsD ds = some is → vs = is.map V.int
  | _, _, _, .nil, h => by
    have e := Option.some.inj h
    subst e
    rfl
  | _, _, is, .cons (d := d) (ds := ds) a r, h => by
    cases a with
    | int i =>
      unfold intsD at h
      obtain ⟨js, h1, h2⟩ := Option.bind_eq_some_iff.mp h
      have e := Option.some.inj h2
      subst e
      rw [AtAll.ints r h1]
      rfl
    | non => cases h
    | bl b => cases h
    | str x => cases h
    | lst _ _ => cases h
    | tup _ _ _ => cases h
    | tupP _ _ _ => cases h
    | dK _ _ => cases h
    | nd _ _ => cases h
end

/-! ### environments -/
structure Base where
  H0 : Hp
  sx : Option (Addr × Addr)
  T : List (Addr × Str)
def Base.src (B : Base) (b : Addr) : Prop := ∃ a c, B.sx = some (a, c) ∧ (b = a ∨ b = c)
/-- what the tables let stand -/
def NT (B : Base) (o : HO) : Prop := B.T = [] ∨ ∀ ps, o ≠ .tbl ps
def SrcAt (H : Hp) (a c : Addr) (S : Src) : Prop :=
  H a = some (.dK [(.inr "cells", .ref c), (.inr "left", .int S.left), (.inr "mixed", .int S.mixed), (.inr "turn", .int S.turn)]) ∧ H c = some (.lst (S.cells.reverse.map V.int))
structure HeapOk (B : Base) (o : Option Src) (H : Hp) : Prop where
  keep : ∀ b x, B.H0 b = some x → NT B x → ¬ B.src b → H b = some x
  alive : ∀ b, H b = none → B.H0 b = none
  tabs : LamX.Tabs B.T H
  src : (B.sx = none ∧ o = none) ∨ ∃ a c S, B.sx = some (a, c) ∧ o = some S ∧ SrcAt H a c S
def SlOk (P : Program) (w : World) (B : Base) (H : Hp) (x : Option (Option V)) : Sl → Prop
  | .un => True
  | .dat d => ∃ v, x = some (some v) ∧ At P w H v d
  | .lst ds => ∃ p xs, x = some (some (.ref p)) ∧ H p = some (.lst xs) ∧ AtAll P w H xs ds
  | .dK kvs => ∃ p ks, x = some (some (.ref p)) ∧ H p = some (.dK ks) ∧ AtKs P w H ks (kvs.map fun q => (PyData.str q.1, q.2))
  | .nd kvs => ∃ p es, x = some (some (.ref p)) ∧ H p = some (ndO P w p es) ∧ AtEs P w H es (kvs.map fun q => (q.1.data, q.2)) ∧ B.T = []
  | .src => ∃ a c, B.sx = some (a, c) ∧ x = some (some (.ref a))
def Own (σ : L2.St) (ρ : DEnv) (b : Addr) : Prop := ∃ (i : Nat) (s : Sl), ρ.sl[i]? = some s ∧ s.own = true ∧ σ[i]? = some (some (.ref b))
structure Rep (P : Program) (w : World) (B : Base) (H : Hp) (σ : L2.St) (ρ : DEnv) : Prop where
  hp : HeapOk B ρ.src H
  len : ρ.sl.length = σ.length
  at_ : ∀ (i : Nat) (s : Sl), ρ.sl[i]? = some s → SlOk P w B H σ[i]? s
  inj : ∀ (i j : Nat) (s t : Sl) (b : Addr), ρ.sl[i]? = some s → s.own = true → ρ.sl[j]? = some t → t.own = true → σ[i]? = some (some (.ref b)) → σ[j]? = some (some (.ref b)) → i = j
  new : ∀ b, Own σ ρ b → B.H0 b = none ∧ ¬ B.src b
def Fram (B : Base) (σ : L2.St) (ρ : DEnv) (H H' : Hp) : Prop := ∀ b o, H b = some o → NT B o → (Imm o ∨ (¬ Own σ ρ b ∧ ¬ B.src b)) → H' b = some o
structure Post (P : Program) (w : World) (B : Base) (σ : L2.St) (ρ ρ' : DEnv) (H H' : Hp) : Prop where
  rep : Rep P w B H' σ ρ'
  fr : Fram B σ ρ H H'
  own : ∀ b, Own σ ρ' b → Own σ ρ b
  alive : ∀ b, H' b = none → H b = none
theorem Imm.nt {B : Base} {o : HO} (i : Imm o) : NT B o := .inr fun ps e => by
  rw [e] at i
  exact i
section
variable {P : Program} {w : World} {B : Base} {H H' H1 H2 : Hp} {σ : L2.St} {ρ ρ' ρ1 ρ2 : DEnv}
theorem Fram.ext (f : Fram B σ ρ H H') : Ext H H' := fun b o h i => f b o h i.nt (.inl i)
theorem Post.ext (p : Post P w B σ ρ ρ' H H') : Ext H H' := p.fr.ext
theorem Post.trans (p : Post P w B σ ρ ρ1 H H1) (q : Post P w B σ ρ1 ρ2 H1 H2) : Post P w B σ ρ ρ2 H H2 :=
  ⟨q.rep, fun b o h n c => q.fr b o (p.fr b o h n c) n (c.imp id fun z => ⟨fun y => z.1 (p.own b y), z.2⟩), fun b y => p.own b (q.own b y), fun b z => p.alive b (q.alive b z)⟩
theorem HeapOk.same {o : Option Src} (h : HeapOk B o H) (e : Same H H') : HeapOk B o H' :=
  ⟨fun b x a n s => e b x (h.keep b x a n s), fun b z => h.alive b (e.free z), h.tabs.ext e, h.src.imp id fun ⟨a, c, S, h1, h0, h2, h3⟩ => ⟨a, c, S, h1, h0, e _ _ h2, e _ _ h3⟩⟩
theorem SlOk.same {x : Option (Option V)} {s : Sl} (h : SlOk P w B H x s) (e : Same H H') : SlOk P w B H' x s := by
  cases s with
  | un => exact h
  | dat d => obtain ⟨v, h1, h2⟩ := h; exact ⟨v, h1, h2.ext (.of e)⟩
  | lst ds => obtain ⟨p, xs, h1, h2, h3⟩ := h; exact ⟨p, xs, h1, e _ _ h2, h3.ext (.of e)⟩
  | dK kvs => obtain ⟨p, xs, h1, h2, h3⟩ := h; exact ⟨p, xs, h1, e _ _ h2, h3.ext (.of e)⟩
  | nd kvs => obtain ⟨p, xs, h1, h2, h3, h4⟩ := h; exact ⟨p, xs, h1, e _ _ h2, h3.ext (.of e), h4⟩
  | src => exact h
theorem Rep.same (r : Rep P w B H σ ρ) (e : Same H H') : Rep P w B H' σ ρ := ⟨r.hp.same e, r.len, fun i s h => (r.at_ i s h).same e, r.inj, r.new⟩
theorem Post.refl (r : Rep P w B H σ ρ) : Post P w B σ ρ ρ H H := ⟨r, fun _ _ h _ _ => h, fun _ h => h, fun _ h => h⟩
theorem Post.same (r : Rep P w B H σ ρ) (e : Same H H') : Post P w B σ ρ ρ H H' := ⟨r.same e, fun b o h _ _ => e b o h, fun _ h => h, fun _ h => e.free h⟩
theorem same_new {H : Hp} {p : Addr} {o : HO} (h : H p = none) : Same H (upd H p o) := fun b u e => by
  rw [upd_ne (ne_of_none e h)]
  exact e
/-- an owned slot's address -/
theorem own_at {i : Nat} {s : Sl} {x : Option (Option V)} (h : SlOk P w B H x s) (o : s.own = true) : ∃ p u, x = some (some (.ref p)) ∧ H p = some u ∧ ¬ Imm u ∧ (∀ ps, u ≠ .tbl ps) ∧ (B.T = [] ∨ ∀ f, u ≠ .ext f) := by
  cases s with
  | un => cases o
  | dat d => cases o
  | src => cases o
  | lst ds => obtain ⟨p, xs, h1, h2, h3⟩ := h; exact ⟨p, _, h1, h2, (fun z => z), (fun _ z => nomatch z), .inr fun _ z => nomatch z⟩
  | dK kvs => obtain ⟨p, xs, h1, h2, h3⟩ := h; exact ⟨p, _, h1, h2, (fun z => z), (fun _ z => nomatch z), .inr fun _ z => nomatch z⟩
  | nd kvs => obtain ⟨p, xs, h1, h2, h3, h4⟩ := h; exact ⟨p, _, h1, h2, (fun z => z), (fun _ z => nomatch z), .inl h4⟩
/-- an object that one owned slot alone names has changed -/
theorem HeapOk.but {o : Option Src} {p : Addr} {u : HO} (h : HeapOk B o H) (hu : H p = some u) (h0 : B.H0 p = none) (hs : ¬ B.src p) (ht : ∀ ps, u ≠ .tbl ps) (he : B.T = [] ∨ ∀ f, u ≠ .ext f) (e : ∀ b x, b ≠ p → H b = some x → H' b = some x) : HeapOk B o H' := by
  refine ⟨fun b x a n s => e b x (fun z => ?_) (h.keep b x a n s), fun b z => ?_, fun q hq => ?_, h.src.imp id fun ⟨a, c, S, h1, h0', h2, h3⟩ => ⟨a, c, S, h1, h0', ?_, ?_⟩⟩
  · rw [z, h0] at a
    cases a
  · by_cases hb : b = p
    · rw [hb]
      exact h0
    · cases q : H b with
      | none => exact h.alive b q
      | some x =>
        rw [e b x hb q] at z
        cases z
  · obtain ⟨ps, h1, h2, h3⟩ := h.tabs q hq
    refine ⟨ps, e _ _ (fun z => ?_) h1, h2, fun pos cv hc => ?_⟩
    · rw [z, hu] at h1
      exact ht ps (Option.some.inj h1)
    · obtain ⟨c, e1, e2⟩ := h3 pos cv hc
      refine ⟨c, e1, e _ _ (fun z => ?_) e2⟩
      rcases he with he | he
      · rw [he] at hq
        cases hq
      · rw [z, hu] at e2
        exact he _ (Option.some.inj e2)
  · exact e _ _ (fun z => hs ⟨a, c, h1, .inl z.symm⟩) h2
  · exact e _ _ (fun z => hs ⟨a, c, h1, .inr z.symm⟩) h3
theorem ext_but {p : Addr} {u : HO} (hu : H p = some u) (hi : ¬ Imm u) (e : ∀ b x, b ≠ p → H b = some x → H' b = some x) : Ext H H' := fun b x h i => e b x (fun z => by
  rw [z, hu] at h
  cases h
  exact hi i) h
theorem alive_but {p : Addr} (al : ∃ x, H' p = some x) (e : ∀ b x, b ≠ p → H b = some x → H' b = some x) : ∀ b, H' b = none → H b = none := fun b z => by
  by_cases hb : b = p
  · obtain ⟨x, hx⟩ := al
    rw [hb, hx] at z
    cases z
  · cases q : H b with
    | none => rfl
    | some x =>
      rw [e b x hb q] at z
      cases z
theorem SlOk.but {x : Option (Option V)} {s : Sl} {p : Addr} {u : HO} (h : SlOk P w B H x s) (hu : H p = some u) (hi : ¬ Imm u) (hx : s.own = true → x ≠ some (some (.ref p))) (e : ∀ b x, b ≠ p → H b = some x → H' b = some x) : SlOk P w B H' x s := by
  have ex := ext_but hu hi e
  cases s with
  | un => exact h
  | dat d => obtain ⟨v, h1, h2⟩ := h; exact ⟨v, h1, h2.ext ex⟩
  | lst ds => obtain ⟨q, xs, h1, h2, h3⟩ := h; exact ⟨q, xs, h1, e _ _ (fun z => hx rfl (z ▸ h1)) h2, h3.ext ex⟩
  | dK kvs => obtain ⟨q, xs, h1, h2, h3⟩ := h; exact ⟨q, xs, h1, e _ _ (fun z => hx rfl (z ▸ h1)) h2, h3.ext ex⟩
  | nd kvs => obtain ⟨q, xs, h1, h2, h3, h4⟩ := h; exact ⟨q, xs, h1, e _ _ (fun z => hx rfl (z ▸ h1)) h2, h3.ext ex, h4⟩
  | src => exact h
theorem put_get {i j : Nat} {s t : Sl} (h : (ρ.put i s).sl[j]? = some t) : (j = i ∧ t = s) ∨ (j ≠ i ∧ ρ.sl[j]? = some t) := by
  have h : (ρ.sl.set i s)[j]? = some t := h
  by_cases e : j = i
  · subst e
    by_cases hl : j < ρ.sl.length
    · rw [List.getElem?_set_self hl] at h
      exact .inl ⟨rfl, (Option.some.inj h).symm⟩
    · rw [List.getElem?_eq_none (by rw [List.length_set]; omega)] at h
      cases h
  · rw [List.getElem?_set_ne (Ne.symm e)] at h
    exact .inr ⟨e, h⟩
/-- the thing that slot i owns has changed; the slot is told anew -/
theorem Rep.turn (r : Rep P w B H σ ρ) {i : Nat} {s s' : Sl} {p : Addr} {u : HO} (hi : ρ.sl[i]? = some s) (ho : s.own = true) (hp : σ[i]? = some (some (.ref p))) (hu : H p = some u) (e : ∀ b x, b ≠ p → H b = some x → H' b = some x) (al : ∃ x, H' p = some x) (n : SlOk P w B H' σ[i]? s') :
    Post P w B σ ρ (ρ.put i s') H H' := by
  obtain ⟨p', u', h1, h2, h3, h4, h5⟩ := own_at (i := i) (r.at_ i s hi) ho
  have ep : p' = p := by
    rw [hp] at h1
    have z := Option.some.inj (Option.some.inj h1)
    cases z
    rfl
  subst ep
  rw [hu] at h2
  have eu := Option.some.inj h2
  subst eu
  have nw := r.new p' ⟨i, s, hi, ho, hp⟩
  have ownS : ∀ b, Own σ (ρ.put i s') b → Own σ ρ b := fun b ⟨j, t, h1, h2, h3⟩ => by
    rcases put_get h1 with ⟨e1, e2⟩ | ⟨e1, e2⟩
    · subst e1
      exact ⟨j, s, hi, ho, h3⟩
    · exact ⟨j, t, e2, h2, h3⟩
  refine ⟨⟨r.hp.but hu nw.1 nw.2 h4 h5 e, ?_, fun j t h => ?_, fun j k t t' b h1 h2 h3' h4' h5' h6 => ?_, fun b hb => r.new b (ownS b hb)⟩, fun b o h n c => e b o (fun z => ?_) h, ownS, alive_but al e⟩
  · show (ρ.sl.set i s').length = σ.length
    rw [List.length_set]
    exact r.len
  · rcases put_get h with ⟨e1, e2⟩ | ⟨e1, e2⟩
    · subst e1 e2
      exact n
    · refine (r.at_ j t e2).but hu h3 (fun ot z => e1 ?_) e
      exact r.inj j i t s p' e2 ot hi ho z hp
  · have g : ∀ {j : Nat} {t : Sl}, (ρ.put i s').sl[j]? = some t → t.own = true → ∃ t', ρ.sl[j]? = some t' ∧ t'.own = true := fun {j t} h o => by
      rcases put_get h with ⟨e1, e2⟩ | ⟨e1, e2⟩
      · subst e1
        exact ⟨s, hi, ho⟩
      · exact ⟨t, e2, o⟩
    obtain ⟨x1, y1, z1⟩ := g h1 h2
    obtain ⟨x2, y2, z2⟩ := g h3' h4'
    exact r.inj j k x1 x2 b y1 z1 y2 z2 h5' h6
  · subst z
    rw [hu] at h
    cases h
    rcases c with c | c
    · exact h3 c
    · exact c.1 ⟨i, s, hi, ho, hp⟩
/-- a slot gets a new value (at σ'), which is not another's own -/
theorem Rep.assign (r : Rep P w B H σ ρ) {i : Nat} {v : V} {s : Sl} (h : SlOk P w B H (some (some v)) s) (n : s.own = true → ∀ p, v = .ref p → B.H0 p = none ∧ ¬ B.src p ∧ ¬ Own σ ρ p) : Rep P w B H (σ.set i (some v)) (ρ.put i s) := by
  have il : ∀ {j : Nat} {t : Sl}, (ρ.put i s).sl[j]? = some t → (j = i ∧ t = s ∧ (σ.set i (some v))[j]? = some (some v)) ∨ (j ≠ i ∧ ρ.sl[j]? = some t ∧ (σ.set i (some v))[j]? = σ[j]?) := fun {j t} h => by
    have hj : j < ρ.sl.length := by
      have z := (List.getElem?_eq_some_iff.mp (show (ρ.sl.set i s)[j]? = some t from h)).1
      rw [List.length_set] at z
      exact z
    rcases put_get h with ⟨e1, e2⟩ | ⟨e1, e2⟩
    · subst e1
      rw [r.len] at hj
      exact .inl ⟨rfl, e2, List.getElem?_set_self hj⟩
    · exact .inr ⟨e1, e2, List.getElem?_set_ne (Ne.symm e1)⟩
  refine ⟨r.hp, ?_, fun j t hj => ?_, fun j k t t' b h1 h2 h3 h4 h5 h6 => ?_, fun b hb => ?_⟩
  · show (ρ.sl.set i s).length = (σ.set i (some v)).length
    rw [List.length_set, List.length_set]
    exact r.len
  · rcases il hj with ⟨e1, e2, e3⟩ | ⟨e1, e2, e3⟩
    · rw [e3, e2]
      exact h
    · rw [e3]
      exact r.at_ j t e2
  · rcases il h1 with ⟨a1, a2, a3⟩ | ⟨a1, a2, a3⟩
    · rcases il h3 with ⟨b1, b2, b3⟩ | ⟨b1, b2, b3⟩
      · rw [a1, b1]
      · rw [a3] at h5
        rw [b3] at h6
        rw [a2] at h2
        have ev : v = .ref b := Option.some.inj (Option.some.inj h5)
        exact absurd ⟨k, t', b2, h4, h6⟩ (n h2 b ev).2.2
    · rcases il h3 with ⟨b1, b2, b3⟩ | ⟨b1, b2, b3⟩
      · rw [a3] at h5
        rw [b3] at h6
        rw [b2] at h4
        have ev : v = .ref b := Option.some.inj (Option.some.inj h6)
        exact absurd ⟨j, t, a2, h2, h5⟩ (n h4 b ev).2.2
      · rw [a3] at h5
        rw [b3] at h6
        exact r.inj j k t t' b a2 h2 b2 h4 h5 h6
  · obtain ⟨j, t, h1, h2, h3⟩ := hb
    rcases il h1 with ⟨a1, a2, a3⟩ | ⟨a1, a2, a3⟩
    · rw [a3] at h3
      have ev : v = .ref b := Option.some.inj (Option.some.inj h3)
      rw [a2] at h2
      exact ⟨(n h2 b ev).1, (n h2 b ev).2.1⟩
    · rw [a3] at h3
      exact r.new b ⟨j, t, a2, h2, h3⟩
/-- what is new is nobody's -/
theorem HeapOk.fresh {o : Option Src} {p : Addr} (h : HeapOk B o H) (n : H p = none) : B.H0 p = none ∧ ¬ B.src p := by
  refine ⟨h.alive p n, fun ⟨a, c, h1, h2⟩ => ?_⟩
  rcases h.src with ⟨z, _⟩ | ⟨a', c', S, h3, h4, h5, h6⟩
  · rw [z] at h1
    cases h1
  · rw [h1] at h3
    cases h3
    rcases h2 with z | z
    · rw [z, h5] at n
      cases n
    · rw [z, h6] at n
      cases n
theorem Rep.fresh {p : Addr} (r : Rep P w B H σ ρ) (n : H p = none) : B.H0 p = none ∧ ¬ B.src p ∧ ¬ Own σ ρ p := by
  obtain ⟨h1, h2⟩ := r.hp.fresh n
  refine ⟨h1, h2, fun ⟨i, s, a, b, c⟩ => ?_⟩
  obtain ⟨q, u, e1, e2, _⟩ := own_at (i := i) (r.at_ i s a) b
  rw [c] at e1
  have z := Option.some.inj (Option.some.inj e1)
  cases z
  rw [n] at e2
  cases e2
/-- nobody's thing has changed -/
theorem Rep.poke {p : Addr} {u : HO} (r : Rep P w B H σ ρ) (hu : H p = some u) (hi : ¬ Imm u) (ht : ∀ ps, u ≠ .tbl ps) (he : B.T = [] ∨ ∀ f, u ≠ .ext f) (n : B.H0 p = none ∧ ¬ B.src p ∧ ¬ Own σ ρ p) (e : ∀ b x, b ≠ p → H b = some x → H' b = some x) : Rep P w B H' σ ρ :=
  ⟨r.hp.but hu n.1 n.2.1 ht he e, r.len, fun i s h => (r.at_ i s h).but hu hi (fun o z => n.2.2 ⟨i, s, h, o, z⟩) e, r.inj, r.new⟩
theorem Post.poke {p : Addr} {u : HO} (q : Post P w B σ ρ ρ' H H1) (r0 : Rep P w B H σ ρ) (n : H p = none) (hu : H1 p = some u) (hi : ¬ Imm u) (ht : ∀ ps, u ≠ .tbl ps) (he : B.T = [] ∨ ∀ f, u ≠ .ext f) (e : ∀ b x, b ≠ p → H1 b = some x → H2 b = some x) (al : ∃ x, H2 p = some x) : Post P w B σ ρ ρ' H H2 := by
  obtain ⟨n1, n2, n3⟩ := r0.fresh n
  exact ⟨q.rep.poke hu hi ht he ⟨n1, n2, fun z => n3 (q.own p z)⟩ e, fun b o h nt c => e b o (ne_of_none h n) (q.fr b o h nt c), q.own, fun b z => q.alive b (alive_but al e b z)⟩
end
end Dl
end
section
set_option Elab.async false
set_option linter.all false
set_option autoImplicit false
set_option maxRecDepth 100000
set_option maxHeartbeats 1000000
/-! Rules: the judgements, names, constants, operators, calls of built-ins. -/
namespace Dl
open PySem PySem.Spec PyProof.Rows L2

section
variable {P : Program} {w : World} {B : Base} {H H' H1 H2 : Hp} {σ : L2.St} {ρ ρ' ρ1 ρ2 : DEnv}
/-- ghost steps: things are locked, unlocked -/
def Gh (X : Cx) (σ : L2.St) (H : Hp) (Q : Hp → Prop) : Prop := ∀ pins s, Inv X pins σ H s → ∃ H', Inv X pins σ H' s ∧ Q H'
theorem Gh.id {X : Cx} {Q : Hp → Prop} (h : Q H) : Gh X σ H Q := fun _ _ I => ⟨H, I, h⟩
structure ED (B : Base) (X : Cx) (e : Expr) (f : M PyData) : Prop where
  run : ∀ (pins : List (Addr × Obj)) (s : Shared) (σ : L2.St) (H : Hp) (ρ : DEnv) (d : PyData) (ρ' : DEnv), Inv X pins σ H s → Rep X.prog X.w B H σ ρ → f ρ = some (d, ρ') →
    wpAny (model X.prog X.w) X.A (eval e X.env) (EP X pins σ fun v H' => Post X.prog X.w B σ ρ ρ' H H' ∧ At X.prog X.w H' v d) X.xe s
def tED (B : Base) (X : Cx) (f : M PyData) : TE := fun σ H Q => ∃ ρ d ρ', Rep X.prog X.w B H σ ρ ∧ f ρ = some (d, ρ') ∧ ∀ v H', Post X.prog X.w B σ ρ ρ' H H' → At X.prog X.w H' v d → Q v H'
variable {X : Cx} {e : Expr} {f : M PyData}
theorem ED.pe (h : ED B X e f) : PE X e (tED B X f) := ⟨fun pins s σ H Q I ⟨ρ, d, ρ', r, hf, k⟩ => thn (h.run pins s σ H ρ d ρ' I r hf) fun u s' ⟨v, H', I', rv, p, a⟩ => ⟨v, H', I', rv, k v H' p a⟩⟩
theorem ed_of {t : TE} (h : PE X e t) (k : ∀ σ H ρ d ρ', Rep X.prog X.w B H σ ρ → f ρ = some (d, ρ') → t σ H fun v H' => Gh X σ H' fun H2 => Post X.prog X.w B σ ρ ρ' H H2 ∧ At X.prog X.w H2 v d) : ED B X e f :=
  ⟨fun pins s σ H ρ d ρ' I r hf => thn (h.run pins s σ H _ I (k σ H ρ d ρ' r hf)) fun u s' ⟨v, H', I', rv, g⟩ => let ⟨H2, I2, q⟩ := g pins s' I'; ⟨v, H2, I2, rv, q⟩⟩
theorem ed_no : ED B X e eNo := ⟨fun _ _ _ _ _ _ _ _ _ h => nomatch h⟩
/-- a new list -/
structure EL (B : Base) (X : Cx) (e : Expr) (f : M (List PyData)) : Prop where
  run : ∀ (pins : List (Addr × Obj)) (s : Shared) (σ : L2.St) (H : Hp) (ρ : DEnv) (ds : List PyData) (ρ' : DEnv), Inv X pins σ H s → Rep X.prog X.w B H σ ρ → f ρ = some (ds, ρ') →
    wpAny (model X.prog X.w) X.A (eval e X.env) (EP X pins σ fun v H' => ∃ p xs, v = .ref p ∧ H p = none ∧ H' p = some (.lst xs) ∧ AtAll X.prog X.w H' xs ds ∧ Post X.prog X.w B σ ρ ρ' H H') X.xe s
def tEL (B : Base) (X : Cx) (f : M (List PyData)) : TE := fun σ H Q => ∃ ρ ds ρ', Rep X.prog X.w B H σ ρ ∧ f ρ = some (ds, ρ') ∧ ∀ p xs H', H p = none → H' p = some (.lst xs) → AtAll X.prog X.w H' xs ds → Post X.prog X.w B σ ρ ρ' H H' → Q (.ref p) H'
variable {g : M (List PyData)}
theorem EL.pe (h : EL B X e g) : PE X e (tEL B X g) := ⟨fun pins s σ H Q I ⟨ρ, d, ρ', r, hf, k⟩ => thn (h.run pins s σ H ρ d ρ' I r hf) fun u s' ⟨v, H', I', rv, p, xs, ev, n, hp, a, q⟩ => ⟨v, H', I', rv, by rw [ev]; exact k p xs H' n hp a q⟩⟩
theorem el_of {t : TE} (h : PE X e t) (k : ∀ σ H ρ ds ρ', Rep X.prog X.w B H σ ρ → g ρ = some (ds, ρ') → t σ H fun v H' => Gh X σ H' fun H2 => ∃ p xs, v = .ref p ∧ H p = none ∧ H2 p = some (.lst xs) ∧ AtAll X.prog X.w H2 xs ds ∧ Post X.prog X.w B σ ρ ρ' H H2) : EL B X e g :=
  ⟨fun pins s σ H ρ d ρ' I r hf => thn (h.run pins s σ H _ I (k σ H ρ d ρ' r hf)) fun u s' ⟨v, H', I', rv, g⟩ => let ⟨H2, I2, q⟩ := g pins s' I'; ⟨v, H2, I2, rv, q⟩⟩
/-- tests -/
structure TD (B : Base) (X : Cx) (e : Expr) (f : M Bool) : Prop where
  run : ∀ (pins : List (Addr × Obj)) (s : Shared) (σ : L2.St) (H : Hp) (ρ : DEnv) (b : Bool) (ρ' : DEnv), Inv X pins σ H s → Rep X.prog X.w B H σ ρ → f ρ = some (b, ρ') →
    wpAny (model X.prog X.w) X.A (isTrue e X.env (eval e X.env)) (TP X pins σ fun c H' => c = b ∧ Post X.prog X.w B σ ρ ρ' H H') X.xe s
def tTD (B : Base) (X : Cx) (f : M Bool) : TT := fun σ H Q => ∃ ρ b ρ', Rep X.prog X.w B H σ ρ ∧ f ρ = some (b, ρ') ∧ ∀ H', Post X.prog X.w B σ ρ ρ' H H' → Q b H'
variable {t : M Bool}
theorem TD.pt (h : TD B X e t) : PT X e (tTD B X t) := ⟨fun pins s σ H Q I ⟨ρ, d, ρ', r, hf, k⟩ => thn (h.run pins s σ H ρ d ρ' I r hf) fun c s' ⟨H', I', ec, q⟩ => ⟨H', I', by rw [ec]; exact k H' q⟩⟩
theorem td_of {tt : TT} (h : PT X e tt) (k : ∀ σ H ρ b ρ', Rep X.prog X.w B H σ ρ → t ρ = some (b, ρ') → tt σ H fun c H' => c = b ∧ Post X.prog X.w B σ ρ ρ' H H') : TD B X e t :=
  ⟨fun pins s σ H ρ d ρ' I r hf => h.run pins s σ H _ I (k σ H ρ d ρ' r hf)⟩
structure WD (B : Base) (X : Cx) (e : Expr) (f : M Bool) : Prop where
  run : ∀ (wh : Sem Value) (pins : List (Addr × Obj)) (s : Shared) (σ : L2.St) (H : Hp) (ρ : DEnv) (b : Bool) (ρ' : DEnv), Inv X pins σ H s → Rep X.prog X.w B H σ ρ → f ρ = some (b, ρ') →
    wpAny (model X.prog X.w) X.A (isTrue e X.env wh) (TP X pins σ fun c H' => c = b ∧ Post X.prog X.w B σ ρ ρ' H H') X.xe s
theorem WD.pw (h : WD B X e t) : PW X e (tTD B X t) := ⟨fun wh pins s σ H Q I ⟨ρ, d, ρ', r, hf, k⟩ => thn (h.run wh pins s σ H ρ d ρ' I r hf) fun c s' ⟨H', I', ec, q⟩ => ⟨H', I', by rw [ec]; exact k H' q⟩⟩
theorem wd_of {tt : TT} (h : PW X e tt) (k : ∀ σ H ρ b ρ', Rep X.prog X.w B H σ ρ → t ρ = some (b, ρ') → tt σ H fun c H' => c = b ∧ Post X.prog X.w B σ ρ ρ' H H') : WD B X e t :=
  ⟨fun wh pins s σ H ρ d ρ' I r hf => h.run wh pins s σ H _ I (k σ H ρ d ρ' r hf)⟩
theorem wd_td (h : WD B X e t) : TD B X e t := ⟨h.run _⟩
/-- argument lists -/
structure AD (B : Base) (X : Cx) (es : List Expr) (f : M (List PyData)) : Prop where
  run : ∀ (pos : Pos) (pins : List (Addr × Obj)) (s : Shared) (σ : L2.St) (H : Hp) (ρ : DEnv) (ds : List PyData) (ρ' : DEnv), Inv X pins σ H s → Rep X.prog X.w B H σ ρ → f ρ = some (ds, ρ') →
    wpAny (model X.prog X.w) X.A (spliced (backTo pos (starEach es X.env))) (AP X pins σ fun vs H' => Post X.prog X.w B σ ρ ρ' H H' ∧ AtAll X.prog X.w H' vs ds) X.xe s
def tAD (B : Base) (X : Cx) (f : M (List PyData)) : TA := fun σ H Q => ∃ ρ ds ρ', Rep X.prog X.w B H σ ρ ∧ f ρ = some (ds, ρ') ∧ ∀ vs H', Post X.prog X.w B σ ρ ρ' H H' → AtAll X.prog X.w H' vs ds → Q vs H'
variable {es : List Expr}
theorem AD.pa (h : AD B X es g) : PA X es (tAD B X g) := ⟨fun pos pins s σ H Q I ⟨ρ, d, ρ', r, hf, k⟩ => thn (h.run pos pins s σ H ρ d ρ' I r hf) fun c s' ⟨vs, H', I', rv, p, q⟩ => ⟨vs, H', I', rv, k vs H' p q⟩⟩
theorem ad_of {ta : TA} (h : PA X es ta) (k : ∀ σ H ρ ds ρ', Rep X.prog X.w B H σ ρ → g ρ = some (ds, ρ') → ta σ H fun vs H' => Post X.prog X.w B σ ρ ρ' H H' ∧ AtAll X.prog X.w H' vs ds) : AD B X es g :=
  ⟨fun pos pins s σ H ρ d ρ' I r hf => h.run pos pins s σ H _ I (k σ H ρ d ρ' r hf)⟩

/-! ### binds -/
theorem bind2 {α β : Type} {a : Option α} {k : α → Option β} {y : β} (h : a.bind k = some y) : ∃ x, a = some x ∧ k x = some y := Option.bind_eq_some_iff.mp h

theorem pair2 {α β : Type} {a c : α} {b d : β} (h : some (a, b) = some (c, d)) : a = c ∧ b = d := by
  cases h
  exact ⟨rfl, rfl⟩

/-! ### freezing -/
theorem gh_lock {d : Addr} {u : HO} {Q : Hp → Prop} (h : H d = some u) (mu : Mut (some u)) (q : ∀ od, Q (upd H d (.frz od u))) : Gh X σ H Q := fun pins s I => let ⟨od, I'⟩ := I.lock h mu; ⟨_, I', q od⟩
theorem upd_but {d : Addr} {u : HO} : ∀ b x, b ≠ d → H b = some x → upd H d u b = some x := fun b x n h => by rw [upd_ne n]; exact h
theorem frz_slot {i : Nat} {s : Sl} {d : PyData} (r : Rep X.prog X.w B H σ ρ) (hi : ρ.sl[i]? = some s) (hd : s.read = some d) : ∃ v, σ[i]? = some (some v) ∧ Gh X σ H fun H2 => Post X.prog X.w B σ ρ (ρ.froz i s d) H H2 ∧ At X.prog X.w H2 v d := by
  have h := r.at_ i s hi
  cases s with
  | un => cases hd
  | src => cases hd
  | dat d' =>
    have e := Option.some.inj hd
    subst e
    obtain ⟨v, h1, h2⟩ := h
    exact ⟨v, h1, .id ⟨.refl r, h2⟩⟩
  | lst ds =>
    have e := Option.some.inj hd
    subst e
    obtain ⟨p, xs, h1, h2, h3⟩ := h
    refine ⟨.ref p, h1, gh_lock h2 True.intro fun od => ?_⟩
    have a : At X.prog X.w (upd H p (.frz od (.lst xs))) (.ref p) (.list ds) := .lst upd_same (h3.ext (ext_but h2 (fun z => z) upd_but))
    exact ⟨r.turn (s' := .dat (.list ds)) hi rfl h1 h2 upd_but ⟨_, upd_same⟩ ⟨.ref p, h1, a⟩, a⟩
  | dK kvs =>
    have e := Option.some.inj hd
    subst e
    obtain ⟨p, xs, h1, h2, h3⟩ := h
    refine ⟨.ref p, h1, gh_lock h2 True.intro fun od => ?_⟩
    have a : At X.prog X.w (upd H p (.frz od (.dK xs))) (.ref p) (kvD kvs) := .dK upd_same (h3.ext (ext_but h2 (fun z => z) upd_but))
    exact ⟨r.turn (s' := .dat (kvD kvs)) hi rfl h1 h2 upd_but ⟨_, upd_same⟩ ⟨.ref p, h1, a⟩, a⟩
  | nd kvs =>
    have e := Option.some.inj hd
    subst e
    obtain ⟨p, xs, h1, h2, h3, h4⟩ := h
    refine ⟨.ref p, h1, gh_lock h2 True.intro fun od => ?_⟩
    have a : At X.prog X.w (upd H p (.frz od (ndO X.prog X.w p xs))) (.ref p) (ndD kvs) := .nd upd_same (h3.ext (ext_but h2 (fun z => z) upd_but))
    exact ⟨r.turn (s' := .dat (ndD kvs)) hi rfl h1 h2 upd_but ⟨_, upd_same⟩ ⟨.ref p, h1, a⟩, a⟩
theorem ed_var (i : Nat) {x : Str} {pos : Pos} (hN : X.N[i]? = some x := by rfl) (hv : Vis X.env.scope x := by first | exact Or.inl rfl | exact Or.inr (Or.inl rfl) | exact Or.inr (Or.inr rfl)) (hd : (x == ("__debug__" : Str)) = false := by decide)
    (hcd : (x == ("__classdict__" : Str)) = false := by decide) : ED B X (.Name x pos) (eVar i) := by
  refine ed_of (pe_var hN hv hd hcd) fun σ H ρ d ρ' r hf => ?_
  obtain ⟨s, h1, h2⟩ := bind2 hf
  obtain ⟨d', h3, h4⟩ := bind2 h2
  obtain ⟨rfl, rfl⟩ := pair2 h4
  exact frz_slot r h1 h3
/-- a new list as data -/
theorem ed_fz (h : EL B X e g) : ED B X e (eFz g) := by
  refine ed_of h.pe fun σ H ρ d ρ' r hf => ?_
  obtain ⟨⟨ds, ρ1⟩, h1, h2⟩ := bind2 hf
  obtain ⟨rfl, rfl⟩ := pair2 h2
  refine ⟨ρ, ds, ρ1, r, h1, fun p xs H1 n hp a q => gh_lock hp True.intro fun od => ?_⟩
  exact ⟨q.poke r n hp (fun z => z) (fun _ z => nomatch z) (.inr fun _ z => nomatch z) upd_but ⟨_, upd_same⟩, .lst upd_same (a.ext (ext_but hp (fun z => z) upd_but))⟩
/-! ### constants -/
theorem ed_c {v : V} {d : PyData} (h : PE X e (tC v)) (a : ∀ H, At X.prog X.w H v d) : ED B X e (eC d) := ed_of h fun σ H ρ d' ρ' r hf => by
  obtain ⟨rfl, rfl⟩ := pair2 hf
  exact .id ⟨.refl r, a H⟩
theorem ed_int {i : Int} {j : Nat} {pos : Pos} : ED B X (.Constant (.int i) j pos) (eC (.int i)) := ed_c pe_int fun _ => .int i
theorem ed_bool {b : Bool} {j : Nat} {pos : Pos} : ED B X (.Constant (.bool b) j pos) (eC (.bool b)) := ed_c pe_bl fun _ => .bl b
theorem ed_none {j : Nat} {pos : Pos} : ED B X (.Constant .none j pos) (eC .none) := ed_c pe_non fun _ => .non
theorem ed_str {x : Str} {j : Nat} {pos : Pos} : ED B X (.Constant (.str x) j pos) (eC (.str x)) := ed_c pe_str fun _ => .str x
theorem ed_glob {x : Str} {i : Int} {pos : Pos} (hg : Gl X x) (hm : ∃ t, X.mg x = some (.int i t)) (hd : (x == ("__debug__" : Str)) = false := by decide) : ED B X (.Name x pos) (eC (.int i)) := by
  obtain ⟨t, hm⟩ := hm
  exact ed_c (pe_glob (v := .int i) hg hm ⟨t, rfl⟩ hd) fun _ => .int i

/-! ### argument lists -/
theorem ad_nil : AD B X [] aNil := ad_of pa_nil fun σ H ρ ds ρ' r hf => by
  obtain ⟨rfl, rfl⟩ := pair2 hf
  exact ⟨.refl r, .nil⟩
theorem ad_cons {f : M PyData} {g : M (List PyData)} (ha : ED B X e f) (hr : AD B X es g) (hs : starEach (e :: es) X.env = (false, eval e X.env) :: starEach es X.env := by rfl) : AD B X (e :: es) (aCons f g) := by
  refine ad_of (pa_cons ha.pe hr.pa hs) fun σ H ρ ds ρ' r hf => ?_
  obtain ⟨⟨d, ρ1⟩, h1, h2⟩ := bind2 hf
  obtain ⟨⟨ds', ρ2⟩, h3, h4⟩ := bind2 h2
  obtain ⟨rfl, rfl⟩ := pair2 h4
  exact ⟨ρ, d, ρ1, r, h1, fun v H1 p a => ⟨ρ1, ds', ρ2, p.rep, h3, fun vs H2 q b => ⟨p.trans q, .cons (a.ext q.ext) b⟩⟩⟩
theorem At.items {v : V} {d : PyData} {ds : List PyData} {K : PySem.W.Frag} (a : At P w H v d) (h : itemsD d = some ds) : ∃ p xs, v = .ref p ∧ (SqL K H p xs ∨ SqT K H p xs) ∧ AtAll P w H xs ds := by
  cases a with
  | lst h1 h2 =>
    have e := Option.some.inj h
    subst e
    exact ⟨_, _, rfl, .inl (.inl (.inr ⟨_, h1⟩)), h2⟩
  | tup h1 _ h2 =>
    have e := Option.some.inj h
    subst e
    exact ⟨_, _, rfl, .inr (.inl (.inl h1)), h2⟩
  | tupP h1 _ h2 =>
    have e := Option.some.inj h
    subst e
    exact ⟨_, _, rfl, .inr (.inl (.inr ⟨_, h1⟩)), h2⟩
  | non => cases h
  | bl b => cases h
  | int i => cases h
  | str x => cases h
  | dK _ _ => cases h
  | nd _ _ => cases h
theorem ad_star {f : M PyData} {g : M (List PyData)} {p : Pos} (ha : ED B X e f) (hr : AD B X es g) (hs : starEach (.Starred e p :: es) X.env = (true, eval e X.env) :: starEach es X.env := by rfl) : AD B X (.Starred e p :: es) (aStar f g) := by
  refine ad_of (StX.pa_star ha.pe hr.pa hs) fun σ H ρ ds ρ' r hf => ?_
  obtain ⟨⟨d, ρ1⟩, h1, h2⟩ := bind2 hf
  obtain ⟨xs, hx, h2⟩ := bind2 h2
  obtain ⟨⟨ds', ρ2⟩, h3, h4⟩ := bind2 h2
  obtain ⟨rfl, rfl⟩ := pair2 h4
  refine ⟨ρ, d, ρ1, r, h1, fun v H1 p a => ?_⟩
  obtain ⟨q, us, rfl, h5, h6⟩ := a.items (K := X.K) hx
  exact ⟨q, us, rfl, h5.symm, ρ1, ds', ρ2, p.rep, h3, fun vs H2 q b => ⟨p.trans q, (h6.ext q.ext).append b⟩⟩
theorem small_le {n : Nat} (h : small n = true) : n ≤ sizeLine := Nat.le_trans (of_decide_eq_true h) (by decide)
theorem small_lt {n : Nat} (h : small n = true) : n < sizeLine := Nat.lt_of_le_of_lt (of_decide_eq_true h) (by decide)
/-- a tuple just laid, with the object itself -/
theorem tup_new {pins : List (Addr × Obj)} {s : Shared} {xs : List V} {us : List Value} {tk : Nat} (I : Inv X pins σ H s) (r : Vals xs us) (z : xs.length ≤ sizeLine) :
    ∃ ob : Obj, ob.dict = none ∧ Inv X pins σ (upd H s.heap.objs.size (.frz ob (.tup xs))) { s with heap := s.heap.push { cls := .type "tuple", data := .seq us.toArray }, toks := tk } := by
  refine ⟨_, rfl, I.laid (fun b u e => Heap.get?_push_of_some _ e) (Nat.le_refl _) (show ObjOk X.prog X.w _ _ _ (.frz { cls := .type "tuple", data := .seq us.toArray } (.tup xs)) from ?_)⟩
  have e := Heap.get?_push_size s.heap (o := { cls := .type "tuple", data := .seq us.toArray }) rfl
  exact ⟨e, z, us, r, _, e, rfl, _, rfl⟩
def rNewT (xs : List V) (H : Hp) (Q : VK) : Prop := ∀ p o, H p = none → o.dict = none → Q (.ref p) (upd H p (.frz o (.tup xs)))
theorem pe_tupP {x1 : Nat} {pos : Pos} {t : TA} (h : PA X es t) : PE X (.Tuple es x1 pos) (fun σ H Q => t σ H fun xs H1 => xs.length ≤ sizeLine ∧ rNewT xs H1 Q) := by
  refine ⟨fun pins s σ H Q I hq => ?_⟩
  refine wpAny_Tuple_spliced (thn (h.run pos pins s σ H _ I hq) fun us s1 ⟨ys, HH, J, r, z, k⟩ => ⟨by rw [← r.length]; exact z, ?_⟩)
  obtain ⟨ob, hd, J2⟩ := tup_new (tk := s1.toks) J r z
  exact ⟨.ref s1.heap.objs.size, _, J2, rfl, k _ ob (J.hok.fresh (Nat.le_refl _)) hd⟩
theorem ed_tup {x1 : Nat} {pos : Pos} (h : AD B X es g) : ED B X (.Tuple es x1 pos) (eTup g) := by
  refine ed_of (pe_tupP h.pa) fun σ H ρ d ρ' r hf => ?_
  obtain ⟨⟨ds, ρ1⟩, h1, h2⟩ := bind2 hf
  dsimp only at h2
  split at h2
  · rename_i hs
    obtain ⟨rfl, rfl⟩ := pair2 h2
    refine ⟨ρ, ds, ρ1, r, h1, fun vs H1 p a => ⟨by rw [a.length]; exact small_le hs, fun q o hq hd => .id ⟨p.trans (.same p.rep (same_new hq)), .tupP upd_same hd (a.ext (.of (same_new hq)))⟩⟩⟩
  · cases h2
theorem el_disp {pos : Pos} (h : AD B X es g) : EL B X (.List es pos) (lDisp g) := by
  refine el_of (pe_lst h.pa) fun σ H ρ d ρ' r hf => ?_
  obtain ⟨⟨ds, ρ1⟩, h1, h2⟩ := bind2 hf
  dsimp only at h2
  split at h2
  · rename_i hs
    obtain ⟨rfl, rfl⟩ := pair2 h2
    refine ⟨ρ, ds, ρ1, r, h1, fun vs H1 p a => ⟨by rw [a.length]; exact small_le hs, fun q hq => .id ⟨q, vs, rfl, ?_, upd_same, a.ext (.of (same_new hq)), p.trans (.same p.rep (same_new hq))⟩⟩⟩
    exact p.alive q hq
  · cases h2
end
end Dl
end
section
set_option Elab.async false
set_option linter.all false
set_option autoImplicit false
set_option maxRecDepth 100000
set_option maxHeartbeats 1000000
/-! Rules2: operators, comparisons, tests, conditionals, items, slices. -/
namespace Dl
open PySem PySem.Spec PyProof.Rows L2
section
variable {P : Program} {w : World} {B : Base} {H H' H1 H2 : Hp} {σ : L2.St} {ρ ρ' ρ1 ρ2 : DEnv} {X : Cx} {e a b c : Expr} {f fa fb fc : M PyData} {pins : List (Addr × Obj)} {s : Shared}
mutual
theorem nest (I : Inv X pins σ H s) : ∀ {v : V} {d : PyData} {u : Value} {k : NestedKey}, At X.prog X.w H v d → RelV v u → toK d = some k → NestedIs s.heap k u
  | _, _, _, _, .non, r, h => by
    cases r
    cases Option.some.inj h
    exact .none
  | _, _, _, _, .bl b, r, h => by cases h
  | _, _, _, _, .int i, r, h => by
    obtain ⟨t, rfl⟩ := r
    cases Option.some.inj h
    exact .int i t
  | _, _, _, _, .str x, r, h => by
    obtain ⟨t, rfl⟩ := r
    cases Option.some.inj h
    exact .text x t
  | _, _, _, _, .lst _ _, r, h => by cases h
  | _, _, _, _, .tup h1 _ h2, r, h => by
    cases r
    obtain ⟨ks, h3, h4⟩ := bind2 h
    cases Option.some.inj h4
    obtain ⟨_, its, rv, o, e1, e2, n, e3⟩ := I.hok _ _ h1
    exact .tup e1 e2 e3 (by simpa using nests I h2 rv h3)
  | _, _, _, _, .tupP h1 _ h2, r, h => by
    cases r
    obtain ⟨ks, h3, h4⟩ := bind2 h
    cases Option.some.inj h4
    obtain ⟨_, _, its, rv, o, e1, e2, n, e3⟩ := I.hok _ _ h1
    exact .tup e1 e2 e3 (by simpa using nests I h2 rv h3)
  | _, _, _, _, .dK _ _, r, h => by cases h
  | _, _, _, _, .nd _ _, r, h => by cases h
theorem nests (I : Inv X pins σ H s) : ∀ {vs : List V} {ds : List PyData} {us : List Value} {ks : List NestedKey}, AtAll X.prog X.w H vs ds → Vals vs us → toKs ds = some ks → NestedAll s.heap ks us
  | _, _, _, _, .nil, r, h => by
    cases r
    cases Option.some.inj h
    exact .nil
  | _, _, _, _, .cons a q, r, h => by
    cases r with
    | cons r1 r2 =>
      obtain ⟨k, h1, h2⟩ := bind2 h
      obtain ⟨ks, h3, h4⟩ := bind2 h2
      cases Option.some.inj h4
      exact .cons (nest I a r1 h1) (nests I q r2 h3)
end
theorem At.int_inv {v : V} {i : Int} (a : At P w H v (.int i)) : v = .int i := by
  cases a
  rfl
theorem At.bl_inv {v : V} {i : Bool} (a : At P w H v (.bool i)) : v = .bl i := by
  cases a
  rfl
theorem At.str_inv {v : V} {i : Str} (a : At P w H v (.str i)) : v = .str i := by
  cases a
  rfl
theorem At.non_inv {v : V} (a : At P w H v .none) : v = .non := by
  cases a
  rfl
theorem At.tup_inv {v : V} {ds : List PyData} (a : At P w H v (.tuple ds)) : ∃ p xs, v = .ref p ∧ Rd H p (.tup xs) ∧ AtAll P w H xs ds := by
  cases a with
  | tup h1 _ h2 => exact ⟨_, _, rfl, .inl h1, h2⟩
  | tupP h1 _ h2 => exact ⟨_, _, rfl, .inr ⟨_, h1⟩, h2⟩
theorem At.lst_inv {v : V} {ds : List PyData} (a : At P w H v (.list ds)) : ∃ p o xs, v = .ref p ∧ H p = some (.frz o (.lst xs)) ∧ AtAll P w H xs ds := by
  cases a with
  | lst h1 h2 => exact ⟨_, _, _, rfl, h1, h2⟩

/-! ### two-place operators -/
def rOf (X : Cx) (f : PyData → PyData → Option PyData) : R2 := fun x y H Q => ∃ d e z, At X.prog X.w H x d ∧ At X.prog X.w H y e ∧ f d e = some z ∧ ∀ v H', Same H H' → At X.prog X.w H' v z → Q v H'
def Op2 (X : Cx) (g : Value → Value → Sem Value) (f : PyData → PyData → Option PyData) : Prop := OpR X g (rOf X f)
theorem e2_inv {op : PyData → PyData → Option PyData} {d : PyData} (h : e2 op fa fb ρ = some (d, ρ')) : ∃ x ρ1 y, fa ρ = some (x, ρ1) ∧ fb ρ1 = some (y, ρ') ∧ op x y = some d := by
  obtain ⟨⟨x, ρ1⟩, h1, h2⟩ := bind2 h
  obtain ⟨⟨y, ρ2⟩, h3, h4⟩ := bind2 h2
  obtain ⟨z, h5, h6⟩ := bind2 h4
  obtain ⟨rfl, rfl⟩ := pair2 h6
  exact ⟨x, ρ1, y, h1, h3, h5⟩
theorem e1_inv {op : PyData → Option PyData} {d : PyData} (h : e1 op fa ρ = some (d, ρ')) : ∃ x, fa ρ = some (x, ρ') ∧ op x = some d := by
  obtain ⟨⟨x, ρ1⟩, h1, h2⟩ := bind2 h
  obtain ⟨z, h5, h6⟩ := bind2 h2
  obtain ⟨rfl, rfl⟩ := pair2 h6
  exact ⟨x, h1, h5⟩
/-- the reading of two operands -/
theorem two {op : PyData → PyData → Option PyData} {d : PyData} {Q : VK} (r : Rep X.prog X.w B H σ ρ) (h : e2 op fa fb ρ = some (d, ρ')) (k : ∀ v H', Post X.prog X.w B σ ρ ρ' H H' → At X.prog X.w H' v d → Q v H') : tOp (rOf X op) (tED B X fa) (tED B X fb) σ H Q := by
  obtain ⟨x, ρ1, y, h1, h2, h3⟩ := e2_inv h
  exact ⟨ρ, x, ρ1, r, h1, fun v H1 p a => ⟨ρ1, y, ρ', p.rep, h2, fun u H2 q c => ⟨x, y, d, a.ext q.ext, c, h3, fun z H3 e g => k z H3 ((p.trans q).trans (.same q.rep e)) g⟩⟩⟩
theorem ed_bin {op : Operator} {o : PyData → PyData → Option PyData} {pos : Pos} (ho : Op2 X (binaryOp op) o) (ha : ED B X a fa) (hb : ED B X b fb) : ED B X (.BinOp a op b pos) (e2 o fa fb) :=
  ed_of (pe_op ho ha.pe hb.pe) fun σ H ρ d ρ' r hf => two r hf fun v H' p q => .id ⟨p, q⟩
theorem ed_cmp {op : CmpOp} {o : PyData → PyData → Option PyData} {pos : Pos} (ho : Op2 X (compareOp op) o) (ha : ED B X a fa) (hb : ED B X b fb) (hm : behindInMarks op b = false := by first | exact nomark _ | rfl) : ED B X (.Compare a [op] [b] pos) (e2 o fa fb) :=
  ed_of (pe_cmpR ho ha.pe hb.pe hm) fun σ H ρ d ρ' r hf => two r hf fun v H' p q => .id ⟨p, q⟩
theorem tB_inv {bb : Bool} (h : tB f ρ = some (bb, ρ')) : f ρ = some (.bool bb, ρ') := by
  obtain ⟨⟨x, ρ1⟩, h1, h2⟩ := bind2 h
  cases x with
  | bool c =>
    obtain ⟨rfl, rfl⟩ := pair2 h2
    exact h1
  | none => cases h2
  | int i => cases h2
  | str i => cases h2
  | list i => cases h2
  | tuple i => cases h2
  | dict i => cases h2
theorem td_cmp {op : CmpOp} {o : PyData → PyData → Option PyData} {pos : Pos} (ho : Op2 X (compareOp op) o) (ha : ED B X a fa) (hb : ED B X b fb) (hm : behindInMarks op b = false := by first | exact nomark _ | rfl) : TD B X (.Compare a [op] [b] pos) (tB (e2 o fa fb)) :=
  td_of (pt_cmpR ho ha.pe hb.pe hm) fun σ H ρ d ρ' r hf => two r (tB_inv hf) fun v H' p q => ⟨d, q.bl_inv, rfl, p⟩
theorem td_val (h : ED B X e f) (he : ∀ whole, isTrue e X.env whole = (do let v ← whole; standAt e.pos; holding [v] (truthy v)) := by intro _; rfl) : TD B X e (tB f) :=
  td_of (pt_val h.pe he) fun σ H ρ d ρ' r hf => ⟨ρ, _, ρ', r, tB_inv hf, fun v H' p q => ⟨d, q.bl_inv, rfl, p⟩⟩
theorem opI_inv {g : Int → Int → PyData} {x y z : PyData} (h : opI g x y = some z) : ∃ i j, x = .int i ∧ y = .int j ∧ z = g i j := by
  unfold opI at h
  split at h
  · exact ⟨_, _, rfl, rfl, (Option.some.inj h).symm⟩
  · cases h
theorem op2_I {g : Value → Value → Sem Value} {gV : Int → Int → V} {gD : Int → Int → PyData} (h : OpR X g (rI0 gV)) (k : ∀ H i j, At X.prog X.w H (gV i j) (gD i j)) : Op2 X g (opI gD) := by
  intro pins s σ H x y v u Q I rx ry ⟨d, e, z, a, c, hz, q⟩
  obtain ⟨i, j, rfl, rfl, rfl⟩ := opI_inv hz
  rw [a.int_inv] at rx
  rw [c.int_inv] at ry
  exact h pins s σ H _ _ v u Q I rx ry ⟨i, j, rfl, rfl, q _ H (.refl H) (k H i j)⟩
theorem op2_Sub : Op2 X (binaryOp .Sub) opSub := op2_I op_sub fun _ _ _ => .int _
theorem op2_Lt : Op2 X (compareOp .Lt) opLt := op2_I op_lt fun _ _ _ => .bl _
theorem op2_Le : Op2 X (compareOp .LtE) opLe := op2_I op_le fun _ _ _ => .bl _
theorem op2_Gt : Op2 X (compareOp .Gt) opGt := op2_I op_gt fun _ _ _ => .bl _
theorem op2_Ge : Op2 X (compareOp .GtE) opGe := op2_I op_ge fun _ _ _ => .bl _
theorem op2_Mod : Op2 X (binaryOp .Mod) opMod := by
  intro pins s σ H x y v u Q I rx ry ⟨d, e, z, a, c, hz, q⟩
  unfold opMod at hz
  split at hz
  · split at hz
    · rename_i hj
      cases Option.some.inj hz
      rw [a.int_inv] at rx
      rw [c.int_inv] at ry
      exact op_mod pins s σ H _ _ v u Q I rx ry ⟨_, _, rfl, rfl, of_decide_eq_true hj, q _ H (.refl H) (.int _)⟩
    · cases hz
  · cases hz
theorem op2_Pow : Op2 X (binaryOp .Pow) opPow := by
  intro pins s σ H x y v u Q I rx ry ⟨d, e, z, a, c, hz, q⟩
  unfold opPow at hz
  split at hz
  · split at hz
    · rename_i hj
      cases Option.some.inj hz
      simp only [Bool.and_eq_true, decide_eq_true_eq] at hj
      rw [a.int_inv] at rx
      rw [c.int_inv] at ry
      exact op_pow pins s σ H _ _ v u Q I rx ry ⟨_, _, rfl, rfl, ⟨hj.1.1, hj.1.2, hj.2⟩, q _ H (.refl H) (.int _)⟩
    · cases hz
  · cases hz
/-- t + u, neither of them empty -/
theorem op_catP : OpR X (binaryOp .Add) (fun x y H Q => ∃ a b xs ys, x = .ref a ∧ y = .ref b ∧ SqT X.K H a xs ∧ SqT X.K H b ys ∧ xs.length + ys.length ≤ sizeLine ∧ xs ≠ [] ∧ ys ≠ [] ∧ rNewT (xs ++ ys) H Q) := by
  intro pins s σ H x y v u Q I rx ry h
  obtain ⟨a, b, xs, ys, rfl, rfl, ta, tb, hz, n1, n2, k⟩ := h
  obtain rfl : v = Value.ref a := rx
  obtain rfl : u = Value.ref b := ry
  obtain ⟨us, r1, i1, _⟩ := I.tuple ta
  obtain ⟨ws, r2, i2, _⟩ := I.tuple tb
  obtain ⟨ob, hd, J⟩ := tup_new (tk := s.toks) I (r1.append r2) (by rw [List.length_append]; exact hz)
  exact HT.cat_tup i1 i2 (fun z => n1 (r1.nil_iff.mp z)) (fun z => absurd (r2.nil_iff.mp z) n2) (fun _ => ⟨.ref s.heap.objs.size, _, J, rfl, k _ ob (I.hok.fresh (Nat.le_refl _)) hd⟩) (by rw [← r1.length, ← r2.length]; exact hz)
theorem op2_Add : Op2 X (binaryOp .Add) opAdd := by
  intro pins s σ H x y v u Q I rx ry ⟨d, e, z, a, c, hz, q⟩
  unfold opAdd at hz
  split at hz
  · cases Option.some.inj hz
    rw [a.int_inv] at rx
    rw [c.int_inv] at ry
    exact op_add pins s σ H _ _ v u Q I rx ry ⟨_, _, rfl, rfl, q _ H (.refl H) (.int _)⟩
  · split at hz
    · rename_i xs ys hs
      cases Option.some.inj hz
      obtain ⟨p, vs, rfl, h1, h2⟩ := a.tup_inv
      obtain ⟨p', vs', rfl, h3, h4⟩ := c.tup_inv
      by_cases e1 : vs = []
      · refine op_catA pins s σ H _ _ v u Q I rx ry ⟨p, p', vs, vs', rfl, rfl, .inl h1, .inl h3, by rw [h2.length, h4.length]; exact small_le hs, fun _ => ?_, fun z => absurd e1 z, fun z => absurd e1 z⟩
        subst e1
        cases h2
        exact q _ H (.refl H) c
      · by_cases e2 : vs' = []
        · refine op_catA pins s σ H _ _ v u Q I rx ry ⟨p, p', vs, vs', rfl, rfl, .inl h1, .inl h3, by rw [h2.length, h4.length]; exact small_le hs, fun z => absurd z e1, fun _ _ => ?_, fun _ z => absurd e2 z⟩
          subst e2
          cases h4
          rw [List.append_nil] at q
          exact q _ H (.refl H) a
        · exact op_catP pins s σ H _ _ v u Q I rx ry ⟨p, p', vs, vs', rfl, rfl, .inl h1, .inl h3, by rw [h2.length, h4.length]; exact small_le hs, e1, e2, fun p o hp hd => q _ _ (same_new hp) (.tupP upd_same hd ((h2.append h4).ext (.of (same_new hp))))⟩
    · cases hz
  · cases hz
/-! ### == and in -/
theorem eqKs_inv {ds es : List PyData} {bb : Bool} (h : eqKs ds es = some bb) : ∃ ks ls, toKs ds = some ks ∧ toKs es = some ls ∧ NestedKey.depthAll ks ≤ 60 ∧ NestedKey.depthAll ls ≤ 60 ∧ bb = decide (ks = ls) := by
  obtain ⟨ks, h1, h2⟩ := bind2 h
  obtain ⟨ls, h3, h4⟩ := bind2 h2
  split at h4
  · rename_i hj
    simp only [Bool.and_eq_true, shal, decide_eq_true_eq] at hj
    exact ⟨ks, ls, h1, h3, hj.1, hj.2, (Option.some.inj h4).symm⟩
  · cases h4
theorem beqAll_dec (a b : List NestedKey) : NestedKey.beqAll a b = decide (a = b) := by
  cases h : NestedKey.beqAll a b with
  | true => exact (decide_eq_true (NestedKey.eq_of_beqAll a b h)).symm
  | false => exact (decide_eq_false fun e => by rw [e, NestedKey.beqAll_self] at h; cases h).symm
theorem room60 {A : Around} {k n m : Nat} (hr : Room k A) (h : n ≤ 60) : A.in1.units + min n m < cLine := by
  have := hr.un
  have e : A.in1.units = A.units + 1 := rfl
  omega
theorem items_eq (I : Inv X pins σ H s) {k : Nat} (hr : Room k X.A) {xs ys : List V} {us ws : List Value} {ds es : List PyData} {ks ls : List NestedKey} (ha : AtAll X.prog X.w H xs ds) (hb : AtAll X.prog X.w H ys es) (ra : Vals xs us) (rb : Vals ys ws) (h1 : toKs ds = some ks) (h2 : toKs es = some ls) (h3 : NestedKey.depthAll ks ≤ 60) :
    us.length = ks.length ∧ ws.length = ls.length ∧ ∀ j (h1 : j < us.toArray.size) (h2 : j < ws.toArray.size), SeqAt.EqAt X.A.in1 s us.toArray[j] ws.toArray[j] (keyEqAt ks ls j) := by
  have n1 := nests I ha ra h1
  have n2 := nests I hb rb h2
  refine ⟨NestedAll.length _ _ n1, NestedAll.length _ _ n2, fun j j1 j2 => ?_⟩
  have q := eqAt_keys ks ls X.A.in1 s us ws n1 n2 (room60 hr h3) j (by simpa using j1) (by simpa using j2)
  simpa using q
theorem tup_eq {ks ls : List NestedKey} {n m : Nat} (h1 : n = ks.length) (h2 : m = ls.length) : ((List.range (min n m)).all (keyEqAt ks ls) && n == m) = decide (ks = ls) := by
  subst h1 h2
  rw [beqAll_eq, beqAll_dec]
theorem lst_eq {ks ls : List NestedKey} (h : ks.length = ls.length) : (List.range ks.length).all (keyEqAt ks ls) = decide (ks = ls) := by
  rw [← tup_eq rfl rfl, h, Nat.min_self]
  simp
theorem rc_eq (I : Inv X pins σ H s) {k : Nat} (hr : Room k X.A) {x y : V} {v u : Value} {d e : PyData} {bb : Bool} (a : At X.prog X.w H x d) (c : At X.prog X.w H y e) (rx : RelV x v) (ry : RelV y u) (h : eqD d e = some bb) :
    SeqAt.RcAt X.A s v u bb ∧ SeqAt.RcNeAt X.A s v u (!bb) := by
  unfold eqD at h
  split at h
  · cases Option.some.inj h
    rw [a.int_inv] at rx
    rw [c.int_inv] at ry
    obtain ⟨t, rfl⟩ := rx
    obtain ⟨t', rfl⟩ := ry
    exact ⟨fun prog w E Q q => eq_int (by rw [Bool.beq_eq_decide_eq]; exact q), fun prog w E Q q => ne_int (by rw [bne, Bool.beq_eq_decide_eq]; exact q)⟩
  · cases Option.some.inj h
    rw [a.str_inv] at rx
    rw [c.str_inv] at ry
    obtain ⟨t, rfl⟩ := rx
    obtain ⟨t', rfl⟩ := ry
    exact ⟨fun prog w E Q q => eq_str (by rw [Bool.beq_eq_decide_eq]; exact q), fun prog w E Q q => ne_str (by rw [bne, Bool.beq_eq_decide_eq]; exact q)⟩
  · obtain ⟨ks, ls, h1, h2, h3, h4, rfl⟩ := eqKs_inv h
    obtain ⟨p, xs, rfl, e1, e2⟩ := a.tup_inv
    obtain ⟨p', ys, rfl, e3, e4⟩ := c.tup_inv
    cases rx
    cases ry
    obtain ⟨_, us, r1, t1⟩ := e1.ok I.hok
    obtain ⟨_, ws, r2, t2⟩ := e3.ok I.hok
    obtain ⟨l1, l2, q⟩ := items_eq I hr e2 e4 r1 r2 h1 h2 h3
    have eq := tup_eq (ks := ks) (ls := ls) (n := us.toArray.size) (m := ws.toArray.size) (by simpa using l1) (by simpa using l2)
    rw [← eq]
    exact ⟨SeqAt.RcAt.tuples t1 t2 hr.units0 q, SeqAt.RcNeAt.tuples t1 t2 hr.units0 q⟩
  · obtain ⟨ks, ls, h1, h2, h3, h4, rfl⟩ := eqKs_inv h
    obtain ⟨p, o, xs, rfl, e1, e2⟩ := a.lst_inv
    obtain ⟨p', o', ys, rfl, e3, e4⟩ := c.lst_inv
    cases rx
    cases ry
    obtain ⟨us, r1, t1, _⟩ := I.list (.inl (.inr ⟨_, e1⟩))
    obtain ⟨ws, r2, t2, _⟩ := I.list (.inl (.inr ⟨_, e3⟩))
    obtain ⟨l1, l2, q⟩ := items_eq I hr e2 e4 r1 r2 h1 h2 h3
    by_cases hl : us.length = ws.length
    · have eq := lst_eq (ks := ks) (ls := ls) (by omega)
      rw [← eq, ← l1]
      have hz : us.length = us.toArray.size := by simp
      rw [hz]
      exact ⟨SeqAt.RcAt.lists t1.isList t2.isList (by simpa using hl) hr.units0 q, SeqAt.RcNeAt.lists t1.isList t2.isList (by simpa using hl) hr.units0 q⟩
    · have hne : ks ≠ ls := fun z => hl (by rw [l1, l2, z])
      rw [decide_eq_false hne]
      exact ⟨SeqAt.RcAt.lists_lengths t1.isList t2.isList (by simpa using hl) hr.units0, SeqAt.RcNeAt.lists_lengths t1.isList t2.isList (by simpa using hl) hr.units0⟩
  · cases h
theorem op2_Eq {k : Nat} (hr : Room k X.A) : Op2 X (compareOp .Eq) opEq := by
  intro pins s σ H x y v u Q I rx ry ⟨d, e, z, a, c, hz, q⟩
  obtain ⟨bb, h1, h2⟩ := bind2 hz
  cases Option.some.inj h2
  exact (rc_eq I hr a c rx ry h1).1 _ _ _ _ ⟨.bl bb, H, I, rfl, q _ H (.refl H) (.bl bb)⟩
theorem op2_Ne {k : Nat} (hr : Room k X.A) : Op2 X (compareOp .NotEq) opNe := by
  intro pins s σ H x y v u Q I rx ry ⟨d, e, z, a, c, hz, q⟩
  obtain ⟨bb, h1, h2⟩ := bind2 hz
  cases Option.some.inj h2
  exact (rc_eq I hr a c rx ry h1).2 _ _ _ _ ⟨.bl (!bb), H, I, rfl, q _ H (.refl H) (.bl (!bb))⟩
theorem NestedAll.mem {h : Heap} : ∀ {ks : List NestedKey} {us : List Value}, NestedAll h ks us → ∀ u ∈ us, ∃ k ∈ ks, NestedIs h k u
  | _, _, .nil, u, hu => by cases hu
  | _, _, .cons a r, u, hu => by
    rcases List.mem_cons.mp hu with rfl | hu
    · exact ⟨_, List.mem_cons_self, a⟩
    · obtain ⟨k, h1, h2⟩ := NestedAll.mem r u hu
      exact ⟨k, List.mem_cons_of_mem _ h1, h2⟩
theorem depth_mem {k : NestedKey} : ∀ {ks : List NestedKey}, k ∈ ks → k.depth ≤ NestedKey.depthAll ks
  | _ :: ks, h => by
    unfold NestedKey.depthAll
    rcases List.mem_cons.mp h with rfl | h
    · exact Nat.le_max_left _ _
    · exact Nat.le_trans (depth_mem h) (Nat.le_max_right _ _)
open Classical in
/-- whether a value is the key k -/
noncomputable def isKey (h : Heap) (k : NestedKey) (u : Value) : Bool := decide (NestedIs h k u)
open Classical in
theorem isKey_yes {h : Heap} {k : NestedKey} {u : Value} (a : NestedIs h k u) : isKey h k u = true := by
  unfold isKey
  exact decide_eq_true a
open Classical in
theorem isKey_no {h : Heap} {k : NestedKey} {u : Value} (a : ¬ NestedIs h k u) : isKey h k u = false := by
  unfold isKey
  exact decide_eq_false a
theorem any_key {h : Heap} {k : NestedKey} : ∀ {ks : List NestedKey} {us : List Value}, NestedAll h ks us → us.any (isKey h k) = ks.any fun l => decide (l = k)
  | _, _, .nil => rfl
  | _, _, .cons (k := l) (v := u) a r => by
    rw [List.any_cons, List.any_cons, any_key r]
    congr 1
    by_cases e : l = k
    · subst e
      rw [isKey_yes a, decide_eq_true rfl]
    · rw [decide_eq_false e, isKey_no fun z => e (NestedIs.inj _ _ _ a z)]
theorem in_items (I : Inv X pins σ H s) {k : Nat} (hr : Room k X.A) {x : V} {v : Value} {xs : List V} {us : List Value} {d : PyData} {ds : List PyData} {bb : Bool} (a : At X.prog X.w H x d) (c : AtAll X.prog X.w H xs ds) (rx : RelV x v) (ry : Vals xs us) (h : inItems d ds = some bb) :
    ∃ e : Value → Bool, (∀ y, y ∈ us.toArray → SeqAt.EqAt X.A.in1 s y v (e y)) ∧ us.toArray.any e = bb := by
  obtain ⟨kk, h1, h2⟩ := bind2 h
  obtain ⟨ks, h3, h4⟩ := bind2 h2
  split at h4
  · rename_i hj
    simp only [Bool.and_eq_true, shal, decide_eq_true_eq] at hj
    cases Option.some.inj h4
    have n1 := nest I a rx h1
    have n2 := nests I c ry h3
    refine ⟨isKey s.heap kk, fun y hy => ?_, ?_⟩
    · obtain ⟨l, e1, e2⟩ := NestedAll.mem n2 y (by simpa using hy)
      have q := eqAt_key l kk X.A.in1 s y v e2 n1 (room60 hr (Nat.le_trans (depth_mem e1) hj.2))
      rw [← NestedKey.decide_eq] at q
      by_cases ee : l = kk
      · subst ee
        rw [decide_eq_true rfl] at q
        rw [isKey_yes e2]
        exact q
      · rw [decide_eq_false ee] at q
        rw [isKey_no fun z => ee (NestedIs.inj _ _ _ e2 z)]
        exact q
    · rw [← any_key n2]
      simp
  · cases h4
theorem op2_In {k : Nat} (hr : Room k X.A) : Op2 X (compareOp .In) opIn := by
  intro pins s σ H x y v u Q I rx ry ⟨d, e, z, a, c, hz, q⟩
  obtain ⟨ds, h1, h2⟩ := bind2 hz
  obtain ⟨bb, h3, h4⟩ := bind2 h2
  cases Option.some.inj h4
  obtain ⟨p, xs, rfl, h5, h6⟩ := c.items (K := X.K) h1
  cases ry
  rcases h5 with h5 | h5
  · obtain ⟨us, r1, t1, _⟩ := I.list h5
    obtain ⟨ev, e1, e2⟩ := in_items I hr a h6 rx r1 h3
    exact SeqAt.in_listAt ev t1.isList e1 ⟨.bl _, H, I, by rw [e2]; rfl, q _ H (.refl H) (.bl bb)⟩
  · obtain ⟨us, r1, t1, _⟩ := I.tuple h5
    obtain ⟨ev, e1, e2⟩ := in_items I hr a h6 rx r1 h3
    exact SeqAt.in_tupleAt ev t1 e1 ⟨.bl _, H, I, by rw [e2]; rfl, q _ H (.refl H) (.bl bb)⟩
theorem op2_NotIn {k : Nat} (hr : Room k X.A) : Op2 X (compareOp .NotIn) opNotIn := by
  intro pins s σ H x y v u Q I rx ry ⟨d, e, z, a, c, hz, q⟩
  obtain ⟨ds, h1, h2⟩ := bind2 hz
  obtain ⟨bb, h3, h4⟩ := bind2 h2
  cases Option.some.inj h4
  obtain ⟨p, xs, rfl, h5, h6⟩ := c.items (K := X.K) h1
  cases ry
  rcases h5 with h5 | h5
  · obtain ⟨us, r1, t1, _⟩ := I.list h5
    obtain ⟨ev, e1, e2⟩ := in_items I hr a h6 rx r1 h3
    exact SeqAt.notIn_listAt ev t1.isList e1 ⟨.bl _, H, I, by rw [e2]; rfl, q _ H (.refl H) (.bl (!bb))⟩
  · obtain ⟨us, r1, t1, _⟩ := I.tuple h5
    obtain ⟨ev, e1, e2⟩ := in_items I hr a h6 rx r1 h3
    exact SeqAt.notIn_tupleAt ev t1 e1 ⟨.bl _, H, I, by rw [e2]; rfl, q _ H (.refl H) (.bl (!bb))⟩
/-! ### is -/
theorem isN_at {v : V} {d z : PyData} (a : At P w H v d) (h : opIsN d = some z) : z = .bool (decide (v = .non)) := by
  cases a <;> (cases Option.some.inj h; rfl)
theorem notN_at {v : V} {d z : PyData} (a : At P w H v d) (h : opNotN d = some z) : z = .bool (!decide (v = .non)) := by
  cases a <;> (cases Option.some.inj h; rfl)
theorem op2_Is : Op2 X (compareOp .Is) opIs := by
  intro pins s σ H x y v u Q I rx ry ⟨d, e, z, a, c, hz, q⟩
  unfold opIs at hz
  split at hz
  · have ez := isN_at a hz
    subst ez
    rw [c.non_inv] at ry
    exact op_isN pins s σ H _ _ v u Q I rx ry ⟨rfl, q _ H (.refl H) (.bl _)⟩
  · split at hz
    · cases Option.some.inj hz
      rw [a.bl_inv] at rx
      rw [c.bl_inv] at ry
      exact op_isBl pins s σ H _ _ v u Q I rx ry ⟨_, _, rfl, rfl, q _ H (.refl H) (.bl _)⟩
    · cases hz
  · cases hz
theorem op2_IsNot : Op2 X (compareOp .IsNot) opIsNot := by
  intro pins s σ H x y v u Q I rx ry ⟨d, e, z, a, c, hz, q⟩
  unfold opIsNot at hz
  split at hz
  · have ez := notN_at a hz
    subst ez
    rw [c.non_inv] at ry
    exact op_notN pins s σ H _ _ v u Q I rx ry ⟨rfl, q _ H (.refl H) (.bl _)⟩
  · split at hz
    · cases Option.some.inj hz
      rw [a.bl_inv] at rx
      rw [c.bl_inv] at ry
      exact op_notBl pins s σ H _ _ v u Q I rx ry ⟨_, _, rfl, rfl, q _ H (.refl H) (.bl _)⟩
    · cases hz
  · cases hz
end
end Dl
end
section
set_option Elab.async false
set_option linter.all false
set_option autoImplicit false
set_option maxRecDepth 100000
set_option maxHeartbeats 2000000
/-! Rules3: products, chains, tests, conditionals, items, slices, built-ins. -/
namespace Dl
open PySem PySem.Spec PyProof.Rows L2
theorem tuple_mul1 (l : Addr) (items : Array Value) (n : Nat) (dd : Option Addr) (sl : Array (Option Value)) (u : Tok) :
    Meets (Builtin.«tuple.__mul__» ⟨[.ref l, .int 1 u], []⟩) (fun _ R s => s.heap.get? l = some { cls := .type "tuple", dict := dd, data := .seq items n, slots := sl } ∧ R (.ok (.ret (Value.ref l))) s) :=
  .of_wp fun prog w A R s h => by
    obtain ⟨hp, g, d, tk, os⟩ := s
    obtain ⟨hl, h⟩ := h
    have f1 := AutoSeq1.idx_int
    wp_walk using wpAny_loadPart' hl
    repeat (first
      | (refine wpAny_ite_false (by decide) ?_; wp_walk using wpAny_loadPart' hl)
      | (refine wpAny_ite_true (decide_eq_true (by simp)) ?_; wp_walk using wpAny_loadPart' hl))
    exact ⟨_, rfl, h⟩
section
variable {P : Program} {w : World} {B : Base} {H H' H1 H2 : Hp} {σ : L2.St} {ρ ρ' ρ1 ρ2 : DEnv} {X : Cx} {e a b c : Expr} {f fa fb fc : M PyData} {t u : M Bool} {g : M (List PyData)} {pins : List (Addr × Obj)} {s : Shared} {pos : Pos}
theorem op_rep1 : OpR X (binaryOp .Mult) (fun x y H Q => ∃ l xs, x = .ref l ∧ y = .int 1 ∧ Rd H l (.tup xs) ∧ Q (.ref l) H) := by
  intro pins s σ H x y v u Q I rx ry h
  obtain ⟨l, xs, rfl, rfl, hT, q⟩ := h
  cases rx
  obtain ⟨t, rfl⟩ := ry
  obtain ⟨_, its, r, ⟨cls, dd, data, sl⟩, ho, hc, n, hd⟩ := hT.ok I.hok
  simp only at hc hd
  subst hc hd
  refine wpAny_binaryOp_repeat_ref (T := "tuple") (U := "int") (by decide) ⟨_, ho, rfl⟩ (fun s' => typeIs_int s' 1 t) noFill_tuple_mul F.fills_int_mul F.slot_int_rmul repeat_tuple F.slot_int_index.lookup
    (call_meets F.slot_int_rmul (typeIs_int s 1 t) F.entry_int_rmul (F.args_int_rmul_2 _ _) (int_rmul_tuple 1 t l its.toArray n dd sl)
      ⟨ho, rfl, ⟨_, ho, rfl⟩, call_meets F.slot_tuple_mul ⟨_, ho, rfl⟩ F.entry_tuple_mul (F.args_tuple_mul_2 _ _) (tuple_mul1 l its.toArray n dd sl t) ⟨ho, ?_⟩⟩)
  exact ⟨.ref l, H, I, rfl, q⟩
theorem op2_Mul : Op2 X (binaryOp .Mult) opMul := by
  intro pins s σ H x y v u Q I rx ry ⟨d, e, z, a, c, hz, q⟩
  unfold opMul at hz
  split at hz
  · split at hz
    · rename_i hj
      cases Option.some.inj hz
      rw [a.int_inv] at rx
      rw [c.int_inv] at ry
      simp only [Bool.or_eq_true, fits64, Bool.and_eq_true, decide_eq_true_eq] at hj
      exact op_mul pins s σ H _ _ v u Q I rx ry ⟨_, _, rfl, rfl, hj, q _ H (.refl H) (.int _)⟩
    · cases hz
  · split at hz
    · rename_i xs k hj
      cases Option.some.inj hz
      obtain ⟨p, vs, rfl, h1, h2⟩ := a.tup_inv
      rw [c.int_inv] at ry
      simp only [Bool.and_eq_true, decide_eq_true_eq, Bool.not_eq_true'] at hj
      obtain ⟨⟨⟨⟨j1, j2⟩, j3⟩, j4⟩, j5⟩ := hj
      by_cases hk : k = 1
      · subst hk
        refine op_rep1 pins s σ H _ _ v u Q I rx ry ⟨p, vs, rfl, rfl, h1, ?_⟩
        have e1 : (List.replicate (Int.toNat 1) xs).flatten = xs := by simp
        rw [e1] at q
        exact q _ H (.refl H) a
      · refine op_repT pins s σ H _ _ v u Q I rx ry ⟨p, k, vs, rfl, rfl, .inl h1, ?_, by omega, j2, by rw [h2.length]; exact j3, fun p hp => q _ _ (same_new hp) (.tup upd_same j5 ((h2.rep _).ext (.of (same_new hp))))⟩
        rintro rfl
        cases h2
        simp at j4
    · cases hz
  · cases hz
/-! ### chains -/
theorem chain_read {o o' : PyData → PyData → Option PyData} {d : PyData} {Q : VK} (r : Rep X.prog X.w B H σ ρ) (h : eChain o o' fa fb fc ρ = some (d, ρ')) (k : ∀ v H', Post X.prog X.w B σ ρ ρ' H H' → At X.prog X.w H' v d → Q v H') :
    tChain (rOf X o) (rOf X o') (tED B X fa) (tED B X fb) (tED B X fc) σ H Q := by
  obtain ⟨⟨x, ρ1⟩, h1, h2⟩ := bind2 h
  obtain ⟨⟨y, ρ2⟩, h3, h4⟩ := bind2 h2
  obtain ⟨z, h5, h6⟩ := bind2 h4
  refine ⟨ρ, x, ρ1, r, h1, fun v H1 p a => ⟨ρ1, y, ρ2, p.rep, h3, fun u H2 q c => ⟨x, y, z, a.ext q.ext, c, h5, fun z' H3 e g => ?_⟩⟩⟩
  have q3 : Post X.prog X.w B σ ρ ρ2 H H3 := (p.trans q).trans (.same q.rep e)
  split at h6
  · obtain ⟨⟨x3, ρ3⟩, h7, h8⟩ := bind2 h6
    obtain ⟨z4, h9, h10⟩ := bind2 h8
    obtain ⟨rfl, rfl⟩ := pair2 h10
    refine ⟨true, g.bl_inv, iteT ⟨ρ2, x3, ρ3, q3.rep, h7, fun v4 H4 p4 a4 => ⟨y, x3, z4, (c.ext (.of e)).ext p4.ext, a4, h9, fun z5 H5 e5 g5 => k z5 H5 ((q3.trans p4).trans (.same p4.rep e5)) g5⟩⟩⟩
  · obtain ⟨rfl, rfl⟩ := pair2 h6
    exact ⟨false, g.bl_inv, iteF (k _ _ q3 (.bl false))⟩
  · cases h6
theorem ed_chain {op op' : CmpOp} {o o' : PyData → PyData → Option PyData} (ho : Op2 X (compareOp op) o) (ho' : Op2 X (compareOp op') o') (ha : ED B X a fa) (hb : ED B X b fb) (hc : ED B X c fc) (hm : lastMarks [op, op'] [b, c] = false := by with_unfolding_all rfl) :
    ED B X (.Compare a [op, op'] [b, c] pos) (eChain o o' fa fb fc) := ed_of (pe_chain ho ho' ha.pe hb.pe hc.pe hm) fun σ H ρ d ρ' r hf => chain_read r hf fun v H' p q => .id ⟨p, q⟩
theorem td_chain {op op' : CmpOp} {o o' : PyData → PyData → Option PyData} (ho : Op2 X (compareOp op) o) (ho' : Op2 X (compareOp op') o') (ha : ED B X a fa) (hb : ED B X b fb) (hc : ED B X c fc) (hm : lastMarks [op, op'] [b, c] = false := by with_unfolding_all rfl) :
    TD B X (.Compare a [op, op'] [b, c] pos) (tB (eChain o o' fa fb fc)) := td_of (pt_chain ho ho' ha.pe hb.pe hc.pe hm) fun σ H ρ d ρ' r hf => chain_read r (tB_inv hf) fun v H' p q => ⟨d, q.bl_inv, rfl, p⟩
/-! ### and, or, not -/
theorem wd_and1 (ha : TD B X a t) : WD B X (.BoolOp .And [a] pos) t := wd_of (pw_and1 ha.pt) fun σ H ρ d ρ' r hf => ⟨ρ, d, ρ', r, hf, fun H' p => ⟨rfl, p⟩⟩
theorem wd_or1 (ha : TD B X a t) : WD B X (.BoolOp .Or [a] pos) t := wd_of (pw_or1 ha.pt) fun σ H ρ d ρ' r hf => ⟨ρ, d, ρ', r, hf, fun H' p => ⟨rfl, p⟩⟩
theorem wd_and {rest : List Expr} (ha : TD B X a t) (hb : WD B X (.BoolOp .And (b :: rest) pos) u) : WD B X (.BoolOp .And (a :: b :: rest) pos) (tAnd t u) := by
  refine wd_of (pw_and ha.pt hb.pw) fun σ H ρ d ρ' r hf => ?_
  obtain ⟨⟨c, ρ1⟩, h1, h2⟩ := bind2 hf
  refine ⟨ρ, c, ρ1, r, h1, fun H1 p => ?_⟩
  dsimp only at h2
  cases c with
  | true =>
    rw [if_pos rfl] at h2
    exact iteT ⟨ρ1, d, ρ', p.rep, h2, fun H2 q => ⟨rfl, p.trans q⟩⟩
  | false =>
    rw [if_neg Bool.false_ne_true] at h2
    obtain ⟨rfl, rfl⟩ := pair2 h2
    exact iteF ⟨rfl, p⟩
theorem wd_or {rest : List Expr} (ha : TD B X a t) (hb : WD B X (.BoolOp .Or (b :: rest) pos) u) : WD B X (.BoolOp .Or (a :: b :: rest) pos) (tOr t u) := by
  refine wd_of (pw_or ha.pt hb.pw) fun σ H ρ d ρ' r hf => ?_
  obtain ⟨⟨c, ρ1⟩, h1, h2⟩ := bind2 hf
  refine ⟨ρ, c, ρ1, r, h1, fun H1 p => ?_⟩
  dsimp only at h2
  cases c with
  | true =>
    rw [if_pos rfl] at h2
    obtain ⟨rfl, rfl⟩ := pair2 h2
    exact iteT ⟨rfl, p⟩
  | false =>
    rw [if_neg Bool.false_ne_true] at h2
    exact iteF ⟨ρ1, d, ρ', p.rep, h2, fun H2 q => ⟨rfl, p.trans q⟩⟩
theorem td_not (ha : TD B X a t) : TD B X (.UnaryOp .Not a pos) (tNot t) := by
  refine td_of (pt_not ha.pt) fun σ H ρ d ρ' r hf => ?_
  obtain ⟨⟨c, ρ1⟩, h1, h2⟩ := bind2 hf
  obtain ⟨rfl, rfl⟩ := pair2 h2
  exact ⟨ρ, c, ρ1, r, h1, fun H1 p => ⟨rfl, p⟩⟩
theorem ed_and (ha : ED B X a fa) (hb : ED B X b fb) : ED B X (.BoolOp .And [a, b] pos) (eAnd fa fb) := by
  refine ed_of (pe_and ha.pe (pe_one hb.pe)) fun σ H ρ d ρ' r hf => ?_
  obtain ⟨⟨x, ρ1⟩, h1, h2⟩ := bind2 hf
  dsimp only at h2
  split at h2
  · rename_i cc
    refine ⟨ρ, _, ρ1, r, h1, fun v H1 p a => ⟨cc, a.bl_inv, ?_⟩⟩
    cases cc with
    | true =>
      rw [if_pos rfl] at h2
      exact iteT ⟨ρ1, d, ρ', p.rep, h2, fun v2 H2 q a2 => .id ⟨p.trans q, a2⟩⟩
    | false =>
      rw [if_neg Bool.false_ne_true] at h2
      obtain ⟨rfl, rfl⟩ := pair2 h2
      exact iteF (.id ⟨p, .bl false⟩)
  · cases h2
theorem ed_if {cnd : Expr} (hc : TD B X cnd t) (ha : ED B X a fa) (hb : ED B X b fb) : ED B X (.IfExp cnd a b pos) (eIf t fa fb) := by
  refine ed_of (pe_ifExp hc.pt ha.pe hb.pe) fun σ H ρ d ρ' r hf => ?_
  obtain ⟨⟨c, ρ1⟩, h1, h2⟩ := bind2 hf
  refine ⟨ρ, c, ρ1, r, h1, fun H1 p => ?_⟩
  dsimp only at h2
  cases c with
  | true =>
    rw [if_pos rfl] at h2
    exact iteT ⟨ρ1, d, ρ', p.rep, h2, fun v2 H2 q a2 => .id ⟨p.trans q, a2⟩⟩
  | false =>
    rw [if_neg Bool.false_ne_true] at h2
    exact iteF ⟨ρ1, d, ρ', p.rep, h2, fun v2 H2 q a2 => .id ⟨p.trans q, a2⟩⟩
/-! ### one-place operators, built-ins of one argument -/
def rOf1 (X : Cx) (f : PyData → Option PyData) : V → Hp → VK → Prop := fun x H Q => ∃ d z, At X.prog X.w H x d ∧ f d = some z ∧ ∀ v H', Same H H' → At X.prog X.w H' v z → Q v H'
theorem ed_neg (ha : ED B X a fa) : ED B X (.UnaryOp .USub a pos) (e1 opNeg fa) := by
  refine ed_of (pe_un un_neg ha.pe) fun σ H ρ d ρ' r hf => ?_
  obtain ⟨x, h1, h2⟩ := e1_inv hf
  refine ⟨ρ, x, ρ', r, h1, fun v H1 p a => ?_⟩
  unfold opNeg at h2
  split at h2
  · cases Option.some.inj h2
    exact ⟨_, a.int_inv, .id ⟨p, .int _⟩⟩
  · cases h2
/-- a call of a built-in, by data -/
def rOfs (X : Cx) (f : PyData → Option PyData) : List V → Hp → VK → Prop := fun xs H Q => ∃ x d z, xs = [x] ∧ At X.prog X.w H x d ∧ f d = some z ∧ ∀ v H', Same H H' → At X.prog X.w H' v z → Q v H'
def rOfs2 (X : Cx) (f : PyData → PyData → Option PyData) : List V → Hp → VK → Prop := fun xs H Q => ∃ x y d e z, xs = [x, y] ∧ At X.prog X.w H x d ∧ At X.prog X.w H y e ∧ f d e = some z ∧ ∀ v H', Same H H' → At X.prog X.w H' v z → Q v H'
theorem one_read {op : PyData → Option PyData} {d : PyData} {Q : VK} (r : Rep X.prog X.w B H σ ρ) (h : e1 op fa ρ = some (d, ρ')) (k : ∀ v H', Post X.prog X.w B σ ρ ρ' H H' → At X.prog X.w H' v d → Q v H') : tCB (rOfs X op) (tCons (tED B X fa) tNil) σ H Q := by
  obtain ⟨x, h1, h2⟩ := e1_inv h
  exact ⟨ρ, x, ρ', r, h1, fun v H1 p a => ⟨v, x, d, rfl, a, h2, fun z H3 e g => k z H3 (p.trans (.same p.rep e)) g⟩⟩
theorem two_read {op : PyData → PyData → Option PyData} {d : PyData} {Q : VK} (r : Rep X.prog X.w B H σ ρ) (h : e2 op fa fb ρ = some (d, ρ')) (k : ∀ v H', Post X.prog X.w B σ ρ ρ' H H' → At X.prog X.w H' v d → Q v H') : tCB (rOfs2 X op) (tCons (tED B X fa) (tCons (tED B X fb) tNil)) σ H Q := by
  obtain ⟨x, ρ1, y, h1, h2, h3⟩ := e2_inv h
  exact ⟨ρ, x, ρ1, r, h1, fun v H1 p a => ⟨ρ1, y, ρ', p.rep, h2, fun u H2 q c => ⟨v, u, x, y, d, rfl, a.ext q.ext, c, h3, fun z H3 e g => k z H3 ((p.trans q).trans (.same q.rep e)) g⟩⟩⟩
theorem ed_b1 {id : String} {op : PyData → Option PyData} {x : Str} {p : Pos} (hc : CallR X (.builtin id) (rOfs X op)) (hg : Gl X x) (hm : X.mg x = none) (hv : bootBuiltins x = some (.builtin id)) (ha : ED B X a fa) (hn : x ≠ "__name__" := by decide) (hdb : (x == ("__debug__" : Str)) = false := by decide)
    (hs : starEach [a] X.env = [(false, eval a X.env)]) : ED B X (.Call (.Name x p) [a] [] pos) (e1 op fa) :=
  ed_of (pe_callB hc hg hm hv (pa_cons ha.pe pa_nil (by rw [hs]; rfl)) hn hdb (by rw [hs]; rfl) (by rfl)) fun σ H ρ d ρ' r hf => one_read r hf fun v H' p q => .id ⟨p, q⟩
theorem ed_t1 {T : String} {op : PyData → Option PyData} {x : Str} {p : Pos} (hc : CallR X (.type T) (rOfs X op)) (hg : Gl X x) (hm : X.mg x = none) (hv : bootBuiltins x = some (.type T)) (ha : ED B X a fa) (hn : x ≠ "__name__" := by decide) (hdb : (x == ("__debug__" : Str)) = false := by decide)
    (hs : starEach [a] X.env = [(false, eval a X.env)]) : ED B X (.Call (.Name x p) [a] [] pos) (e1 op fa) :=
  ed_of (pe_callTy hc hg hm hv (pa_cons ha.pe pa_nil (by rw [hs]; rfl)) hn hdb (by rw [hs]; rfl) (by rfl)) fun σ H ρ d ρ' r hf => one_read r hf fun v H' p q => .id ⟨p, q⟩
theorem cl_len : CallR X (.builtin "len") (rOfs X lenD) := by
  intro pins s σ H xs us Q I r h
  obtain ⟨x, d, z, rfl, a, hz, q⟩ := h
  unfold lenD at hz
  split at hz
  · cases Option.some.inj hz
    obtain ⟨p, o, vs, rfl, h1, h2⟩ := a.lst_inv
    rw [← h2.length] at q
    exact call_len_seq pins s σ H _ us Q I r ⟨p, vs, rfl, .inl (.inl (.inr ⟨_, h1⟩)), q _ H (.refl H) (.int _)⟩
  · cases Option.some.inj hz
    obtain ⟨p, vs, rfl, h1, h2⟩ := a.tup_inv
    rw [← h2.length] at q
    exact call_len_seq pins s σ H _ us Q I r ⟨p, vs, rfl, .inr (.inl h1), q _ H (.refl H) (.int _)⟩
  · cases hz
theorem cl_sum (hc : X.calm = true) : CallR X (.builtin "sum") (rOfs X sumD) := by
  intro pins s σ H xs us Q I r h
  obtain ⟨x, d, z, rfl, a, hz, q⟩ := h
  unfold sumD at hz
  split at hz
  · obtain ⟨is, h3, h4⟩ := bind2 hz
    cases Option.some.inj h4
    obtain ⟨p, o, vs, rfl, h1, h2⟩ := a.lst_inv
    have e := h2.ints h3
    subst e
    exact cr_sum hc pins s σ H _ us Q I r ⟨p, is, rfl, .inl (.inr ⟨_, h1⟩), q _ H (.refl H) (.int _)⟩
  · cases hz
theorem AtAll.bools : ∀ {vs : List V} {ds : List PyData} {is : List Bool}, AtAll P w H vs ds → boolsD ds = some is → vs = is.map V.bl
  | _, _, _, .nil, h => by
    have e := Option.some.inj h
    subst e
    rfl
  | _, _, is, .cons (d := d) (ds := ds) a r, h => by
    cases a with
    | bl i =>
      unfold boolsD at h
      obtain ⟨js, h1, h2⟩ := Option.bind_eq_some_iff.mp h
      have e := Option.some.inj h2
      subst e
      rw [AtAll.bools r h1]
      rfl
    | non => cases h
    | int b => cases h
    | str x => cases h
    | lst _ _ => cases h
    | tup _ _ _ => cases h
    | tupP _ _ _ => cases h
    | dK _ _ => cases h
    | nd _ _ => cases h
theorem cl_all (hc : X.calm = true) : CallR X (.builtin "all") (rOfs X allD) := by
  intro pins s σ H xs us Q I r h
  obtain ⟨x, d, z, rfl, a, hz, q⟩ := h
  unfold allD at hz
  split at hz
  · obtain ⟨is, h3, h4⟩ := bind2 hz
    cases Option.some.inj h4
    obtain ⟨p, o, vs, rfl, h1, h2⟩ := a.lst_inv
    have e := h2.bools h3
    subst e
    exact cr_all hc pins s σ H _ us Q I r ⟨p, is, rfl, .inl (.inr ⟨_, h1⟩), q _ H (.refl H) (.bl _)⟩
  · cases hz
theorem maxI_ge : ∀ (r : List Int) (m : Int), m ≤ maxI m r ∧ ∀ y ∈ r, y ≤ maxI m r
  | [], m => ⟨Int.le_refl m, fun y h => by cases h⟩
  | x :: r, m => by
    unfold maxI
    obtain ⟨h1, h2⟩ := maxI_ge r (if x > m then x else m)
    refine ⟨?_, fun y hy => ?_⟩
    · split at h1 <;> (split <;> omega)
    · rcases List.mem_cons.mp hy with rfl | hy
      · split at h1 <;> (split <;> omega)
      · exact h2 y hy
theorem maxI_mem : ∀ (r : List Int) (m : Int), maxI m r = m ∨ maxI m r ∈ r
  | [], m => .inl rfl
  | x :: r, m => by
    unfold maxI
    rcases maxI_mem r (if x > m then x else m) with h | h
    · split at h
      · rw [if_pos (by assumption), h]
        exact .inr List.mem_cons_self
      · rw [if_neg (by assumption), h]
        exact .inl rfl
    · exact .inr (List.mem_cons_of_mem _ h)
theorem minI_le : ∀ (r : List Int) (m : Int), minI m r ≤ m ∧ ∀ y ∈ r, minI m r ≤ y
  | [], m => ⟨Int.le_refl m, fun y h => by cases h⟩
  | x :: r, m => by
    unfold minI
    obtain ⟨h1, h2⟩ := minI_le r (if x < m then x else m)
    refine ⟨?_, fun y hy => ?_⟩
    · split at h1 <;> (split <;> omega)
    · rcases List.mem_cons.mp hy with rfl | hy
      · split at h1 <;> (split <;> omega)
      · exact h2 y hy
theorem minI_mem : ∀ (r : List Int) (m : Int), minI m r = m ∨ minI m r ∈ r
  | [], m => .inl rfl
  | x :: r, m => by
    unfold minI
    rcases minI_mem r (if x < m then x else m) with h | h
    · split at h
      · rw [if_pos (by assumption), h]
        exact .inr List.mem_cons_self
      · rw [if_neg (by assumption), h]
        exact .inl rfl
    · exact .inr (List.mem_cons_of_mem _ h)
theorem max_is {m n : Int} {r : List Int} (h1 : n ∈ m :: r) (h2 : ∀ y ∈ m :: r, y ≤ n) : n = maxI m r := by
  obtain ⟨g1, g2⟩ := maxI_ge r m
  have a : n ≤ maxI m r := by
    rcases List.mem_cons.mp h1 with rfl | h
    · exact g1
    · exact g2 n h
  have b : maxI m r ≤ n := by
    rcases maxI_mem r m with h | h
    · rw [h]
      exact h2 m List.mem_cons_self
    · exact h2 _ (List.mem_cons_of_mem _ h)
  omega
theorem min_is {m n : Int} {r : List Int} (h1 : n ∈ m :: r) (h2 : ∀ y ∈ m :: r, n ≤ y) : n = minI m r := by
  obtain ⟨g1, g2⟩ := minI_le r m
  have a : minI m r ≤ n := by
    rcases List.mem_cons.mp h1 with rfl | h
    · exact g1
    · exact g2 n h
  have b : n ≤ minI m r := by
    rcases minI_mem r m with h | h
    · rw [h]
      exact h2 m List.mem_cons_self
    · exact h2 _ (List.mem_cons_of_mem _ h)
  omega
theorem cl_max (hc : X.calm = true) : CallR X (.builtin "max") (rOfs X maxD) := by
  intro pins s σ H xs us Q I r h
  obtain ⟨x, d, z, rfl, a, hz, q⟩ := h
  unfold maxD at hz
  split at hz
  · obtain ⟨is, h3, h4⟩ := bind2 hz
    split at h4
    · cases h4
    · cases Option.some.inj h4
      obtain ⟨p, o, vs, rfl, h1, h2⟩ := a.lst_inv
      have e := h2.ints h3
      subst e
      refine cr_max hc pins s σ H _ us Q I r ⟨p, _, rfl, .inl (.inr ⟨_, h1⟩), by simp, fun m k1 k2 => ?_⟩
      rw [max_is k1 k2]
      exact q _ H (.refl H) (.int _)
  · cases hz
theorem cl_min (hc : X.calm = true) : CallR X (.builtin "min") (rOfs X minD) := by
  intro pins s σ H xs us Q I r h
  obtain ⟨x, d, z, rfl, a, hz, q⟩ := h
  unfold minD at hz
  split at hz
  · obtain ⟨is, h3, h4⟩ := bind2 hz
    split at h4
    · cases h4
    · cases Option.some.inj h4
      obtain ⟨p, o, vs, rfl, h1, h2⟩ := a.lst_inv
      have e := h2.ints h3
      subst e
      refine cr_min hc pins s σ H _ us Q I r ⟨p, _, rfl, .inl (.inr ⟨_, h1⟩), by simp, fun m k1 k2 => ?_⟩
      rw [min_is k1 k2]
      exact q _ H (.refl H) (.int _)
  · cases hz
theorem cl_max2 (hc : X.calm = true) : CallR X (.builtin "max") (rOfs2 X max2) := by
  intro pins s σ H xs us Q I r h
  obtain ⟨x, y, d, e, z, rfl, a, c, hz, q⟩ := h
  obtain ⟨i, j, rfl, rfl, rfl⟩ := opI_inv hz
  rw [a.int_inv, c.int_inv] at r
  exact call_max2 hc pins s σ H _ us Q I r ⟨i, j, rfl, q _ H (.refl H) (.int _)⟩
theorem cl_min2 (hc : X.calm = true) : CallR X (.builtin "min") (rOfs2 X min2) := by
  intro pins s σ H xs us Q I r h
  obtain ⟨x, y, d, e, z, rfl, a, c, hz, q⟩ := h
  obtain ⟨i, j, rfl, rfl, rfl⟩ := opI_inv hz
  rw [a.int_inv, c.int_inv] at r
  exact call_min2 hc pins s σ H _ us Q I r ⟨i, j, rfl, q _ H (.refl H) (.int _)⟩
theorem cl_int : CallR X (.type "int") (rOfs X intD) := by
  intro pins s σ H xs us Q I r h
  obtain ⟨x, d, z, rfl, a, hz, q⟩ := h
  unfold intD at hz
  split at hz
  · cases Option.some.inj hz
    have e := a.int_inv
    subst e
    exact call_int1 pins s σ H _ us Q I r (.inl ⟨_, rfl, q _ H (.refl H) (.int _)⟩)
  · cases hz
/-- tuple(xs), xs a list: the new tuple with its object -/
theorem call_tupleP : CallR X (.type "tuple") (fun xs H Q => ∃ p ys, xs = [.ref p] ∧ SqL X.K H p ys ∧ rNewT ys H Q) := by
  intro pins s σ H xs us Q I r h
  obtain ⟨p, ys, rfl, hq, k⟩ := h
  obtain ⟨u, rfl, rx⟩ := vals1 r
  obtain rfl : u = Value.ref p := rx
  obtain ⟨ws, rv, pl, hz⟩ := I.list hq
  refine call_tuple_list pl.isList (fun h' kp => ?_) (by rw [List.size_toArray, ← rv.length]; exact hz)
  have J : Inv X pins σ H { s with heap := h' } := I.kept (t' := s.toks) kp
  obtain ⟨ob, hd, J2⟩ := tup_new (tk := s.toks) J rv hz
  exact ⟨.ref h'.objs.size, _, J2, rfl, k _ ob (J.hok.fresh (Nat.le_refl _)) hd⟩
theorem cl_tup : CallR X (.type "tuple") (rOfs X tupD) := by
  intro pins s σ H xs us Q I r h
  obtain ⟨x, d, z, rfl, a, hz, q⟩ := h
  unfold tupD at hz
  split at hz
  · cases Option.some.inj hz
    obtain ⟨p, o, vs, rfl, h1, h2⟩ := a.lst_inv
    exact call_tupleP pins s σ H _ us Q I r ⟨p, vs, rfl, .inl (.inr ⟨_, h1⟩), fun l o hl hd => q _ _ (same_new hl) (.tupP upd_same hd (h2.ext (.of (same_new hl))))⟩
  · cases Option.some.inj hz
    obtain ⟨p, vs, rfl, h1, h2⟩ := a.tup_inv
    exact call_tuple_of pins s σ H _ us Q I r ⟨p, vs, rfl, .inr ⟨.inl h1, q _ H (.refl H) a⟩⟩
  · cases hz
end
end Dl
end
section
set_option Elab.async false
set_option linter.all false
set_option autoImplicit false
set_option maxRecDepth 100000
set_option maxHeartbeats 2000000
/-! Rules4: items, slices, built-ins, new lists. -/
namespace Dl
open PySem PySem.Spec PyProof.Rows L2
section
variable {P : Program} {w : World} {B : Base} {H H' H1 H2 : Hp} {σ : L2.St} {ρ ρ' ρ1 ρ2 : DEnv} {X : Cx} {e a b c : Expr} {f fa fb fc : M PyData} {t u : M Bool} {g : M (List PyData)} {pins : List (Addr × Obj)} {s : Shared} {pos p : Pos}
theorem pe_orR {t1 t2 : TE} (h1 : PE X e t1) (h2 : PE X e t2) : PE X e (fun σ H Q => t1 σ H Q ∨ t2 σ H Q) :=
  ⟨fun pins s σ H Q I h => h.elim (h1.run pins s σ H Q I) (h2.run pins s σ H Q I)⟩
/-! ### built-ins by name -/
section
variable {fn : Str}
theorem ed_len {p : Pos} (hm : X.mg "len" = none) (ha : ED B X a fa) (hg : Gl X "len" := by rfl) (hs : starEach [a] X.env = [(false, eval a X.env)] := by rfl) : ED B X (.Call (.Name "len" p) [a] [] pos) (e1 lenD fa) := ed_b1 cl_len hg hm (by decide +kernel) ha (by decide) (by decide) hs
theorem ed_sum {p : Pos} (hm : X.mg "sum" = none) (ha : ED B X a fa) (hc : X.calm = true := by rfl) (hg : Gl X "sum" := by rfl) (hs : starEach [a] X.env = [(false, eval a X.env)] := by rfl) : ED B X (.Call (.Name "sum" p) [a] [] pos) (e1 sumD fa) := ed_b1 (cl_sum hc) hg hm (by decide +kernel) ha (by decide) (by decide) hs
theorem ed_all {p : Pos} (hm : X.mg "all" = none) (ha : ED B X a fa) (hc : X.calm = true := by rfl) (hg : Gl X "all" := by rfl) (hs : starEach [a] X.env = [(false, eval a X.env)] := by rfl) : ED B X (.Call (.Name "all" p) [a] [] pos) (e1 allD fa) := ed_b1 (cl_all hc) hg hm (by decide +kernel) ha (by decide) (by decide) hs
theorem ed_max {p : Pos} (hm : X.mg "max" = none) (ha : ED B X a fa) (hc : X.calm = true := by rfl) (hg : Gl X "max" := by rfl) (hs : starEach [a] X.env = [(false, eval a X.env)] := by rfl) : ED B X (.Call (.Name "max" p) [a] [] pos) (e1 maxD fa) := ed_b1 (cl_max hc) hg hm (by decide +kernel) ha (by decide) (by decide) hs
theorem ed_min {p : Pos} (hm : X.mg "min" = none) (ha : ED B X a fa) (hc : X.calm = true := by rfl) (hg : Gl X "min" := by rfl) (hs : starEach [a] X.env = [(false, eval a X.env)] := by rfl) : ED B X (.Call (.Name "min" p) [a] [] pos) (e1 minD fa) := ed_b1 (cl_min hc) hg hm (by decide +kernel) ha (by decide) (by decide) hs
theorem ed_int' {p : Pos} (hm : X.mg "int" = none) (ha : ED B X a fa) (hg : Gl X "int" := by rfl) (hs : starEach [a] X.env = [(false, eval a X.env)] := by rfl) : ED B X (.Call (.Name "int" p) [a] [] pos) (e1 intD fa) := ed_t1 cl_int hg hm (by decide +kernel) ha (by decide) (by decide) hs
theorem ed_tuple {p : Pos} (hm : X.mg "tuple" = none) (ha : ED B X a fa) (hg : Gl X "tuple" := by rfl) (hs : starEach [a] X.env = [(false, eval a X.env)] := by rfl) : ED B X (.Call (.Name "tuple" p) [a] [] pos) (e1 tupD fa) := ed_t1 cl_tup hg hm (by decide +kernel) ha (by decide) (by decide) hs
theorem ed_b2 {id : String} {op : PyData → PyData → Option PyData} {x : Str} {p : Pos} (hc : CallR X (.builtin id) (rOfs2 X op)) (hg : Gl X x) (hm : X.mg x = none) (hv : bootBuiltins x = some (.builtin id)) (ha : ED B X a fa) (hb : ED B X b fb) (hn : x ≠ "__name__" := by decide) (hdb : (x == ("__debug__" : Str)) = false := by decide)
    (hs : starEach [a, b] X.env = [(false, eval a X.env), (false, eval b X.env)]) (hs2 : starEach [b] X.env = [(false, eval b X.env)]) : ED B X (.Call (.Name x p) [a, b] [] pos) (e2 op fa fb) :=
  ed_of (pe_callB hc hg hm hv (pa_cons ha.pe (pa_cons hb.pe pa_nil (by rw [hs2]; rfl)) (by rw [hs, hs2])) hn hdb (by rw [hs, hs2]) (by rw [hs2]; rfl)) fun σ H ρ d ρ' r hf => two_read r hf fun v H' p q => .id ⟨p, q⟩
theorem ed_max2 {p : Pos} (hm : X.mg "max" = none) (ha : ED B X a fa) (hb : ED B X b fb) (hc : X.calm = true := by rfl) (hg : Gl X "max" := by rfl) (hs : starEach [a, b] X.env = [(false, eval a X.env), (false, eval b X.env)] := by rfl) (hs2 : starEach [b] X.env = [(false, eval b X.env)] := by rfl) : ED B X (.Call (.Name "max" p) [a, b] [] pos) (e2 max2 fa fb) := ed_b2 (cl_max2 hc) hg hm (by decide +kernel) ha hb (by decide) (by decide) hs hs2
theorem ed_min2 {p : Pos} (hm : X.mg "min" = none) (ha : ED B X a fa) (hb : ED B X b fb) (hc : X.calm = true := by rfl) (hg : Gl X "min" := by rfl) (hs : starEach [a, b] X.env = [(false, eval a X.env), (false, eval b X.env)] := by rfl) (hs2 : starEach [b] X.env = [(false, eval b X.env)] := by rfl) : ED B X (.Call (.Name "min" p) [a, b] [] pos) (e2 min2 fa fb) := ed_b2 (cl_min2 hc) hg hm (by decide +kernel) ha hb (by decide) (by decide) hs hs2
end
/-! ### isinstance -/
theorem isStr_inv {v : V} {d z : PyData} (h : isStr d = some z) (a : At X.prog X.w H v d) : ∃ t b, TyX X.K H v t ∧ PySem.W.kitOne X.K t (.type "str") = some b ∧ z = .bool b := by
  unfold isStr at h
  split at h
  · cases Option.some.inj h
    rw [a.str_inv]
    exact ⟨_, true, .base (.str _), kit_ty (by decide +kernel), rfl⟩
  · cases Option.some.inj h
    rw [a.non_inv]
    exact ⟨_, false, .base .non, kit_ty (by decide +kernel), rfl⟩
  · cases Option.some.inj h
    rw [a.int_inv]
    exact ⟨_, false, .base (.int _), kit_ty (by decide +kernel), rfl⟩
  · cases h
theorem isInt_inv {v : V} {d z : PyData} (h : isInt d = some z) (a : At X.prog X.w H v d) : ∃ t b, TyX X.K H v t ∧ PySem.W.kitOne X.K t (.type "int") = some b ∧ z = .bool b := by
  unfold isInt at h
  split at h
  · cases Option.some.inj h
    rw [a.int_inv]
    exact ⟨_, true, .base (.int _), kit_ty (by decide +kernel), rfl⟩
  · cases Option.some.inj h
    rw [a.non_inv]
    exact ⟨_, false, .base .non, kit_ty (by decide +kernel), rfl⟩
  · cases Option.some.inj h
    rw [a.str_inv]
    exact ⟨_, false, .base (.str _), kit_ty (by decide +kernel), rfl⟩
  · cases h
/-- a built-in's name as a value -/
theorem ed_isi {T : String} {x : Str} {op : PyData → Option PyData} {p p2 : Pos} (hm : X.mg "isinstance" = none) (hmT : X.mg x = none) (ha : ED B X a fa) (hT : PE X (.Name x p2) (tC (.ty T)))
    (hop : ∀ H v d z, op d = some z → At X.prog X.w H v d → ∃ t b, TyX X.K H v t ∧ PySem.W.kitOne X.K t (.type T) = some b ∧ z = .bool b)
    (hg : Gl X "isinstance") (hs : starEach [a, .Name x p2] X.env = (false, eval a X.env) :: starEach [.Name x p2] X.env) (hs2 : starEach [.Name x p2] X.env = [(false, eval (.Name x p2) X.env)]) : ED B X (.Call (.Name "isinstance" p) [a, .Name x p2] [] pos) (e1 op fa) := by
  refine ed_of (pe_callB (id := "isinstance") call_isi hg hm (by decide +kernel) (pa_cons ha.pe (pa_cons hT pa_nil (by rw [hs2]; rfl)) hs) (by decide) (by decide) hs (by rw [hs2]; rfl)) fun σ H ρ d ρ' r hf => ?_
  obtain ⟨x, h1, h2⟩ := e1_inv hf
  refine ⟨ρ, x, ρ', r, h1, fun v H1 p a => ?_⟩
  obtain ⟨t, b, k1, k2, rfl⟩ := hop H1 v x d h2 a
  exact ⟨v, _, t, _, b, rfl, .ty T, k1, k2, .id ⟨p, .bl b⟩⟩
theorem ed_isi_str {p p2 : Pos} (hm : X.mg "isinstance" = none) (hmT : X.mg "str" = none) (ha : ED B X a fa) (hg : Gl X "isinstance" := by rfl) (hgT : Gl X "str" := by rfl)
    (hs : starEach [a, .Name "str" p2] X.env = (false, eval a X.env) :: starEach [.Name "str" p2] X.env := by rfl) (hs2 : starEach [.Name "str" p2] X.env = [(false, eval (.Name "str" p2) X.env)] := by rfl) : ED B X (.Call (.Name "isinstance" p) [a, .Name "str" p2] [] pos) (e1 isStr fa) :=
  ed_isi (T := "str") hm hmT ha (pe_bltn hgT hmT (by decide +kernel) rfl) (fun H v d z h a => isStr_inv h a) hg hs hs2
theorem ed_isi_int {p p2 : Pos} (hm : X.mg "isinstance" = none) (hmT : X.mg "int" = none) (ha : ED B X a fa) (hg : Gl X "isinstance" := by rfl) (hgT : Gl X "int" := by rfl)
    (hs : starEach [a, .Name "int" p2] X.env = (false, eval a X.env) :: starEach [.Name "int" p2] X.env := by rfl) (hs2 : starEach [.Name "int" p2] X.env = [(false, eval (.Name "int" p2) X.env)] := by rfl) : ED B X (.Call (.Name "isinstance" p) [a, .Name "int" p2] [] pos) (e1 isInt fa) :=
  ed_isi (T := "int") hm hmT ha (pe_bltn hgT hmT (by decide +kernel) rfl) (fun H v d z h a => isInt_inv h a) hg hs hs2
/-! ### items -/
theorem atI_at {vs : List V} {ds : List PyData} {i : Int} {d : PyData} (a : AtAll P w H vs ds) (h : atI ds i = some d) : ∃ v, atI vs i = some v ∧ At P w H v d := by
  unfold atI at h ⊢
  rw [← a.length] at h
  obtain ⟨j, h1, h2⟩ := bind2 h
  obtain ⟨v, h3, h4⟩ := a.get h2
  exact ⟨v, by rw [h1]; exact h3, h4⟩
theorem look_at : ∀ {vs : List (Key × V)} {ds : List (PyData × PyData)} {x : Str} {d : PyData}, AtKs P w H vs ds → lookD ds x = some d → ∃ v, valV vs (.inr x) = some v ∧ At P w H v d
  | _, _, x, d, .nil, h => by cases h
  | _, _, x, d, .cons (x := y) (v := v) (d := e) (ds := ds) a r, h => by
    by_cases q : y = x
    · subst q
      have z : lookD ((.str y, e) :: ds) y = some e := by
        unfold lookD
        rw [List.find?_cons_of_pos (by simp)]
        rfl
      rw [z] at h
      cases Option.some.inj h
      exact ⟨v, valV_pos rfl, a⟩
    · unfold lookD at h
      rw [List.find?_cons_of_neg (by simpa using q)] at h
      obtain ⟨v', h1, h2⟩ := look_at (x := x) (d := d) r h
      exact ⟨v', by rw [valV_neg (by rintro ⟨⟩; exact q rfl)]; exact h1, h2⟩
theorem rd_froz {q : Addr} {o : Obj} {u : HO} (h : H q = some (.frz o u)) : Rd H q u := .inr ⟨o, h⟩
/-- what a read of d[i] asks -/
def IxAt (X : Cx) (H : Hp) (v y : V) (z : PyData) : Prop := (∃ z', (rIx X.K v y H fun r H' => r = z' ∧ H' = H) ∧ At X.prog X.w H z' z) ∨ ∃ a v', v = .ref a ∧ DGet H a y (some v') ∧ At X.prog X.w H v' z
theorem ix_lst {vs : List V} {ds : List PyData} {q : Addr} {i : Int} {d : PyData} (h : SqL X.K H q vs) (a : AtAll X.prog X.w H vs ds) (hi : atI ds i = some d) : IxAt X H (.ref q) (.int i) d := by
  obtain ⟨v, h1, h2⟩ := atI_at a hi
  exact .inl ⟨v, .inl ⟨q, vs, i, v, rfl, rfl, h, h1, rfl, rfl⟩, h2⟩
theorem ix_dK {vs : List (Key × V)} {ds : List (PyData × PyData)} {q : Addr} {x : Str} {d : PyData} (h : Rd H q (.dK vs)) (a : AtKs X.prog X.w H vs ds) (hi : lookD ds x = some d) : IxAt X H (.ref q) (.str x) d := by
  obtain ⟨v, h1, h2⟩ := look_at a hi
  exact .inr ⟨q, v, rfl, .inl ⟨vs, .inr x, h, rfl, h1.symm⟩, h2⟩
theorem At.dict_inv' {v : V} {ds : List (PyData × PyData)} (a : At P w H v (.dict ds)) : (∃ q o kvs, v = .ref q ∧ H q = some (.frz o (.dK kvs)) ∧ AtKs P w H kvs ds) ∨ ∃ q o es, v = .ref q ∧ H q = some (.frz o (ndO P w q es)) ∧ AtEs P w H es ds := by
  cases a with
  | dK h r => exact .inl ⟨_, _, _, rfl, h, r⟩
  | nd h r => exact .inr ⟨_, _, _, rfl, h, r⟩
theorem tup_key {k : NestedKey} {q : Addr} (a : At P w H (.ref q) k.data) : ∃ ks, k = .tup ks := by
  cases k with
  | tup ks => exact ⟨ks, rfl⟩
  | none => rw [NestedKey.data] at a; cases a
  | num i => rw [NestedKey.data] at a; cases a
  | text x => rw [NestedKey.data] at a; cases a
theorem look_nd : ∀ {es : NEs} {ds : List (PyData × PyData)} {x : Str} {d : PyData}, AtEs P w H es ds → lookD ds x = some d → False
  | _, _, x, d, .nil, h => by cases h
  | _, _, x, d, .cons (k := k) r a t, h => by
    obtain ⟨ks, e⟩ := tup_key r
    subst e
    unfold lookD at h
    rw [List.find?_cons_of_neg (by rw [NestedKey.data]; simp)] at h
    exact look_nd (x := x) (d := d) t h
theorem ix_data {v y : V} {d i z : PyData} (a : At X.prog X.w H v d) (ai : At X.prog X.w H y i) (h : ixD d i = some z) : IxAt X H v y z := by
  unfold ixD at h
  split at h
  · obtain ⟨q, o, vs, rfl, h1, h2⟩ := a.lst_inv
    rw [ai.int_inv]
    exact ix_lst (.inl (.inr ⟨_, h1⟩)) h2 h
  · obtain ⟨q, vs, rfl, h1, h2⟩ := a.tup_inv
    rw [ai.int_inv]
    obtain ⟨v', h3, h4⟩ := atI_at h2 h
    exact .inl ⟨v', .inr (.inl ⟨q, vs, _, v', rfl, rfl, .inl h1, h3, rfl, rfl⟩), h4⟩
  · rw [ai.str_inv]
    rcases a.dict_inv' with ⟨q, o, kvs, rfl, h1, h2⟩ | ⟨q, o, kvs, rfl, h1, h2⟩
    · exact ix_dK (.inr ⟨o, h1⟩) h2 h
    · exact (look_nd h2 h).elim
  · split at h
    · rename_i hs
      obtain ⟨c, h1, h2⟩ := bind2 h
      cases Option.some.inj h2
      rw [a.str_inv, ai.int_inv]
      exact .inl ⟨_, .inr (.inr ⟨_, _, c, rfl, rfl, small_le hs, h1, rfl, rfl⟩), .str _⟩
    · cases h
  · cases h
theorem ed_ix {k : Nat} (hr : Room k X.A) (ha : ED B X a fa) (hb : ED B X b fb) (hs : PlainIx b := by intro _ _; rfl) : ED B X (.Subscript a b pos) (e2 ixD fa fb) := by
  have hu := hr.units
  refine ed_of (pe_orR (pe_ix ix_seq ha.pe hb.pe hs) (pe_dget (by omega) ha.pe hb.pe hs)) fun σ H ρ d ρ' r hf => ?_
  obtain ⟨x, ρ1, y, h1, h2, h3⟩ := e2_inv hf
  cases x with
  | dict es =>
    refine .inr ⟨ρ, _, ρ1, r, h1, fun v H1 p a1 => ⟨ρ1, y, ρ', p.rep, h2, fun u H2 q c => ?_⟩⟩
    rcases ix_data (a1.ext q.ext) c h3 with ⟨z, ⟨q1, xs, i, v', e1, e2, h4, h5, h6⟩ | ⟨q1, xs, i, v', e1, e2, h4, h5, h6⟩ | ⟨z, i, c', e1, e2, h4⟩, h8⟩ | ⟨q1, v', e1, g, h4⟩
    · have a2 := a1.ext q.ext
      rw [e1] at a2
      rcases a2.dict_inv' with ⟨q2, o, kvs, e4, h9, _⟩ | ⟨q2, o, kvs, e4, h9, _⟩
      · cases c with
        | str _ => cases e2
        | _ => unfold ixD at h3; first | cases h3 | cases e2
      · cases c with
        | str _ => cases e2
        | _ => unfold ixD at h3; first | cases h3 | cases e2
    · cases c with
      | str _ => cases e2
      | _ => unfold ixD at h3; first | cases h3 | cases e2
    · rw [e1] at a1
      cases a1
    · exact ⟨q1, v', e1, g, .id ⟨p.trans q, h4⟩⟩
  | _ =>
    refine .inl ⟨ρ, _, ρ1, r, h1, fun v H1 p a1 => ⟨ρ1, y, ρ', p.rep, h2, fun u H2 q c => ?_⟩⟩
    rcases ix_data (a1.ext q.ext) c h3 with ⟨z, h4, h5⟩ | ⟨q1, v', e1, g, h4⟩
    · rcases h4 with ⟨q1, xs, i, v', e1, e2, h4, h6, h7, h8⟩ | ⟨q1, xs, i, v', e1, e2, h4, h6, h7, h8⟩ | ⟨z, i, c', e1, e2, h4, h6, h7, h8⟩
      · subst h7
        exact .inl ⟨q1, xs, i, _, e1, e2, h4, h6, .id ⟨p.trans q, h5⟩⟩
      · subst h7
        exact .inr (.inl ⟨q1, xs, i, _, e1, e2, h4, h6, .id ⟨p.trans q, h5⟩⟩)
      · subst h7
        exact .inr (.inr ⟨z, i, c', e1, e2, h4, h6, .id ⟨p.trans q, h5⟩⟩)
    · have a2 := a1.ext q.ext
      rw [e1] at a2
      first
        | (cases a2; done)
        | (cases a2 with
          | lst h9 h10 =>
            rcases g with ⟨kvs, k, e, _, _⟩ | ⟨kvs, k, b, e, _, _, _⟩
            · rcases e with e | ⟨o, e⟩ <;> (rw [h9] at e; cases e)
            · rcases e with e | ⟨o, e⟩ <;> (rw [h9] at e; cases e))
        | (cases a2 with
          | tup h9 _ h10 =>
            rcases g with ⟨kvs, k, e, _, _⟩ | ⟨kvs, k, b, e, _, _, _⟩
            · rcases e with e | ⟨o, e⟩ <;> (rw [h9] at e; cases e)
            · rcases e with e | ⟨o, e⟩ <;> (rw [h9] at e; cases e)
          | tupP h9 _ h10 =>
            rcases g with ⟨kvs, k, e, _, _⟩ | ⟨kvs, k, b, e, _, _, _⟩
            · rcases e with e | ⟨o, e⟩ <;> (rw [h9] at e; cases e)
            · rcases e with e | ⟨o, e⟩ <;> (rw [h9] at e; cases e))
/-! ### owned things -/
theorem isL_inv {i : Nat} (h : isL ρ i = true) : ∃ ds, ρ.sl[i]? = some (.lst ds) := by
  unfold isL at h
  split at h
  · exact ⟨_, by assumption⟩
  · cases h
theorem isK_inv {i : Nat} (h : isK ρ i = true) : ∃ ds, ρ.sl[i]? = some (.dK ds) := by
  unfold isK at h
  split at h
  · exact ⟨_, by assumption⟩
  · cases h
theorem isN_inv {i : Nat} (h : isN ρ i = true) : ∃ ds, ρ.sl[i]? = some (.nd ds) := by
  unfold isN at h
  split at h
  · exact ⟨_, by assumption⟩
  · cases h
theorem own_lst {i : Nat} {ds : List PyData} (r : Rep P w B H σ ρ) (h : ρ.sl[i]? = some (.lst ds)) : ∃ q xs, σ[i]? = some (some (.ref q)) ∧ H q = some (.lst xs) ∧ AtAll P w H xs ds := r.at_ i _ h
theorem own_dK {i : Nat} {ds : List (Str × PyData)} (r : Rep P w B H σ ρ) (h : ρ.sl[i]? = some (.dK ds)) : ∃ q xs, σ[i]? = some (some (.ref q)) ∧ H q = some (.dK xs) ∧ AtKs P w H xs (ds.map fun q => (PyData.str q.1, q.2)) := r.at_ i _ h
theorem if_inv {α : Type} {c : Bool} {x : Option α} {y : α} (h : (if c = true then x else none) = some y) : c = true ∧ x = some y := by
  cases c with
  | true => exact ⟨rfl, by rw [if_pos rfl] at h; exact h⟩
  | false => rw [if_neg Bool.false_ne_true] at h; cases h
theorem ref_at {i : Nat} {q q' : Addr} (h1 : σ[i]? = some (some (.ref q))) (h2 : σ[i]? = some (some (.ref q'))) : q' = q := by
  rw [h1] at h2
  cases h2
  rfl
theorem ixD_list {ds : List PyData} {i z : PyData} (h : ixD (.list ds) i = some z) : ∃ k, i = .int k ∧ atI ds k = some z := by
  cases i with
  | int k => exact ⟨k, rfl, h⟩
  | _ => cases h
theorem ixD_dict {ds : List (PyData × PyData)} {i z : PyData} (h : ixD (.dict ds) i = some z) : ∃ x, i = .str x ∧ lookD ds x = some z := by
  cases i with
  | str k => exact ⟨k, rfl, h⟩
  | _ => cases h
theorem ed_ixO {k : Nat} (hr : Room k X.A) (i : Nat) {x : Str} (hb : ED B X b fb) (hN : X.N[i]? = some x := by rfl) (hv : Vis X.env.scope x := by first | exact Or.inl rfl | exact Or.inr (Or.inl rfl) | exact Or.inr (Or.inr rfl)) (hd : (x == ("__debug__" : Str)) = false := by decide)
    (hcd : (x == ("__classdict__" : Str)) = false := by decide) (hs : PlainIx b := by intro _ _; rfl) : ED B X (.Subscript (.Name x p) b pos) (eIxO i fb) := by
  have hu := hr.units
  refine ed_of (pe_orR (pe_ix ix_seq (pe_var hN hv hd hcd) hb.pe hs) (pe_dget (by omega) (pe_var hN hv hd hcd) hb.pe hs)) fun σ H ρ d ρ' r hf => ?_
  obtain ⟨h0, hf⟩ := if_inv hf
  obtain ⟨⟨y, ρ1⟩, h2, h3⟩ := bind2 hf
  obtain ⟨sl, h4, h5⟩ := bind2 h3
  have hq : ∃ q, σ[i]? = some (some (.ref q)) := by
    rw [Bool.or_eq_true] at h0
    rcases h0 with h0 | h0
    · obtain ⟨ds, h0⟩ := isL_inv h0
      obtain ⟨q, xs, e, _⟩ := own_lst r h0
      exact ⟨q, e⟩
    · obtain ⟨ds, h0⟩ := isK_inv h0
      obtain ⟨q, xs, e, _⟩ := own_dK r h0
      exact ⟨q, e⟩
  obtain ⟨q, hq⟩ := hq
  cases sl with
  | lst ds =>
    refine .inl ⟨.ref q, hq, ρ, y, ρ1, r, h2, fun u H2 p2 c => ?_⟩
    obtain ⟨z, h6, h7⟩ := bind2 h5
    obtain ⟨rfl, rfl⟩ := pair2 h7
    obtain ⟨q', xs, e, e1, e2⟩ := own_lst p2.rep h4
    cases ref_at hq e
    obtain ⟨j, e0, h6⟩ := ixD_list h6
    dsimp only at e0
    subst e0
    rw [c.int_inv]
    obtain ⟨v, k1, k2⟩ := atI_at e2 h6
    exact .inl ⟨q, xs, _, v, rfl, rfl, .inl (.inl e1), k1, .id ⟨p2, k2⟩⟩
  | dK kvs =>
    refine .inr ⟨.ref q, hq, ρ, y, ρ1, r, h2, fun u H2 p2 c => ?_⟩
    obtain ⟨z, h6, h7⟩ := bind2 h5
    obtain ⟨rfl, rfl⟩ := pair2 h7
    obtain ⟨q', xs, e, e1, e2⟩ := own_dK p2.rep h4
    cases ref_at hq e
    obtain ⟨j, e0, h6⟩ := ixD_dict h6
    dsimp only at e0
    subst e0
    rw [c.str_inv]
    obtain ⟨v, k1, k2⟩ := look_at e2 h6
    exact ⟨q, v, rfl, .inl ⟨xs, .inr _, .inl e1, rfl, k1.symm⟩, .id ⟨p2, k2⟩⟩
  | _ => cases h5
theorem ed_lenO (i : Nat) {x : Str} {p2 : Pos} (hm : X.mg "len" = none) (hN : X.N[i]? = some x := by rfl) (hv : Vis X.env.scope x := by first | exact Or.inl rfl | exact Or.inr (Or.inl rfl) | exact Or.inr (Or.inr rfl)) (hd : (x == ("__debug__" : Str)) = false := by decide)
    (hcd : (x == ("__classdict__" : Str)) = false := by decide) (hg : Gl X "len" := by rfl) (hs : starEach [.Name x p2] X.env = [(false, eval (.Name x p2) X.env)] := by rfl) : ED B X (.Call (.Name "len" p) [.Name x p2] [] pos) (eLenO i) := by
  refine ed_of (pe_callB (id := "len") call_len_seq hg hm (by decide +kernel) (pa_cons (pe_var hN hv hd hcd) pa_nil (by rw [hs]; rfl)) (by decide) (by decide) (by rw [hs]; rfl) (by rfl)) fun σ H ρ d ρ' r hf => ?_
  obtain ⟨sl, h4, h5⟩ := bind2 hf
  cases sl with
  | lst ds =>
    obtain ⟨rfl, rfl⟩ := pair2 h5
    obtain ⟨q, xs, e, e1, e2⟩ := own_lst r h4
    rw [← e2.length]
    exact ⟨.ref q, e, q, xs, rfl, .inl (.inl (.inl e1)), .id ⟨.refl r, .int _⟩⟩
  | _ => cases h5
theorem upd_but' {q : Addr} {o : HO} : ∀ b x, b ≠ q → H b = some x → upd H q o b = some x := fun b x n e => by rw [upd_ne n]; exact e
theorem lst_kind {q : Addr} {xs : List V} {o : HO} (i : ¬ Imm o) : ¬ Imm o := i
theorem ed_popO (i : Nat) {x : Str} {apos : Pos} (hb : ED B X b fb) (hN : X.N[i]? = some x := by rfl) (hv : Vis X.env.scope x := by first | exact Or.inl rfl | exact Or.inr (Or.inl rfl) | exact Or.inr (Or.inr rfl)) (hd : (x == ("__debug__" : Str)) = false := by decide)
    (hcd : (x == ("__classdict__" : Str)) = false := by decide) (hbase : attributeBase (.Name x p) "pop" X.env (eval (.Name x p) X.env) = eval (.Name x p) X.env := by rfl)
    (hfew : ((backTo pos (starEach [b] X.env)).all (fun x => !x.1) && (backToKw pos (keywordEach [] X.env)).all (fun x => x.1.isSome)
      && decide (([b] : List Expr).length + ([] : List Keyword).length + (if ([] : List Keyword).isEmpty then 0 else 1) < 30)) = true := by rfl)
    (hline : (apos.endLine == pos.line) = true := by rfl) (hs : starEach [b] X.env = [(false, eval b X.env)] := by rfl) : ED B X (.Call (.Attribute (.Name x p) "pop" apos) [b] [] pos) (ePopO i fb) := by
  refine ed_of (pe_bm PySem.F.plainAttrs_list PySem.F.slot_list_pop PySem.F.type_list_pop mt_popAt (pe_var hN hv hd hcd) (pa_cons hb.pe pa_nil (by rw [hs]; rfl)) hbase hfew hline (by rw [hs]; rfl) (by rfl)) fun σ H ρ d ρ' r hf => ?_
  obtain ⟨h0, hf⟩ := if_inv hf
  obtain ⟨⟨y, ρ1⟩, h2, h3⟩ := bind2 hf
  obtain ⟨sl, h4, h5⟩ := bind2 h3
  obtain ⟨ds0, h0⟩ := isL_inv h0
  obtain ⟨q, xs0, hq, g1, g2⟩ := own_lst r h0
  refine ⟨.ref q, hq, .inl ⟨rfl, xs0, .inl (.inl g1)⟩, ρ, y, ρ1, r, h2, fun u H2 p2 c => ?_⟩
  dsimp only at h5
  split at h5
  · rename_i ds k
    obtain ⟨q', xs, e, e1, e2⟩ := own_lst p2.rep h4
    cases ref_at hq e
    rw [c.int_inv]
    split at h5
    · rename_i hk
      obtain ⟨d', h6, h7⟩ := bind2 h5
      obtain ⟨rfl, rfl⟩ := pair2 h7
      simp only [Bool.and_eq_true, decide_eq_true_eq] at hk
      obtain ⟨v, h8, h9⟩ := e2.get h6
      have hlt : k.toNat < xs.length := (List.getElem?_eq_some_iff.mp h8).1
      refine ⟨q, xs, k, k.toNat, v, rfl, rfl, e1, by omega, hk.2, ?_, h8, .id ?_⟩
      · rw [seqIndex_of hk.1 (by omega)]
      · have ex := ext_but e1 (fun z => z) (upd_but' (o := .lst (xs.eraseIdx k.toNat)))
        refine ⟨p2.trans (p2.rep.turn (s' := .lst (ds.eraseIdx k.toNat)) h4 rfl e e1 upd_but' ⟨_, upd_same⟩ ⟨q, _, e, upd_same, (e2.ext ex).erase _⟩), h9.ext ex⟩
    · cases h5
  · cases h5
/-! ### slices -/
inductive Part (X : Cx) : Option Expr → Option Int → Prop where
  | none : Part X none none
  | int {i : Int} {j : Nat} {p : Pos} : Part X (some (.Constant (.int i) j p)) (some i)
  | neg {i : Int} {j : Nat} {p p2 : Pos} : Part X (some (.UnaryOp .USub (.Constant (.int i) j p) p2)) (some (-i))
theorem Part.po {e : Option Expr} {o : Option Int} (h : Part X e o) : PO X e (fun _ H Q => Q o H) := by
  cases h with
  | none => exact po_none
  | int =>
    refine ⟨fun pins s σ H Q I h => (po_some pe_int).run pins s σ H Q I ?_⟩
    exact ⟨_, rfl, h⟩
  | neg =>
    refine ⟨fun pins s σ H Q I h => (po_some (pe_un un_neg pe_int)).run pins s σ H Q I ?_⟩
    exact ⟨_, rfl, _, rfl, h⟩
theorem sp_none : Part X none none := .none
theorem sp_int {i : Int} {j : Nat} {p : Pos} : Part X (some (.Constant (.int i) j p)) (some i) := .int
theorem sp_neg {i : Int} {j : Nat} {p p2 : Pos} : Part X (some (.UnaryOp .USub (.Constant (.int i) j p) p2)) (some (-i)) := .neg
/-- t[i:j]: the whole of it is t itself; else a new tuple with its object -/
theorem sl_tupP : SlR X (fun x lo hi H Q => ∃ a xs, x = .ref a ∧ SqT X.K H a xs ∧ (HT.sIx xs.length 0 lo = 0 ∧ HT.sIx xs.length xs.length hi = xs.length → Q (.ref a) H) ∧ (¬ (HT.sIx xs.length 0 lo = 0 ∧ HT.sIx xs.length xs.length hi = xs.length) → rNewT (cutV xs lo hi) H Q)) := by
  intro pins s σ H x v vl vu lo hi sl Q I rx hs pl pu h
  obtain ⟨a, xs, ex, tq, k1, k2⟩ := h
  by_cases hw : HT.sIx xs.length 0 lo = 0 ∧ HT.sIx xs.length xs.length hi = xs.length
  · exact sl_tupA pins s σ H x v vl vu lo hi sl Q I rx hs pl pu ⟨a, xs, ex, tq, k1, fun z => absurd hw z⟩
  · subst ex
    obtain rfl : v = Value.ref a := rx
    obtain ⟨us, rv, it, hz⟩ := I.tuple tq
    have el : us.toArray.size = xs.length := by rw [List.size_toArray, rv.length]
    obtain ⟨ob, hd, J⟩ := tup_new (tk := s.toks) I ((rv.drop (HT.sIx xs.length 0 lo)).take (HT.sIx xs.length xs.length hi - HT.sIx xs.length 0 lo)) (Nat.le_trans (cutV_length xs lo hi) hz)
    refine ⟨"tuple", _, PyProof.Rows.slot_tuple_getitem.lookup, it.typeIs, HT.getItem_tuple_cut it hs pl pu (by rw [el]; exact hw) ?_ (by rw [el]; exact hz)⟩
    rw [el]
    exact ⟨.ref s.heap.objs.size, _, J, rfl, k2 hw _ ob (I.hok.fresh (Nat.le_refl _)) hd⟩
theorem ed_slT {lo hi : Option Expr} {i j : Option Int} {p2 : Pos} (ha : ED B X a fa) (hl : Part X lo i) (hh : Part X hi j) : ED B X (.Subscript a (.Slice lo hi none p2) pos) (e1 (slT i j) fa) := by
  refine ed_of (pe_slice sl_tupP ha.pe hl.po hh.po) fun σ H ρ d ρ' r hf => ?_
  obtain ⟨x, h1, h2⟩ := e1_inv hf
  refine ⟨ρ, x, ρ', r, h1, fun v H1 p a => ?_⟩
  unfold slT at h2
  split at h2
  · cases Option.some.inj h2
    rename_i ds
    obtain ⟨q, xs, rfl, h3, h4⟩ := a.tup_inv
    refine ⟨q, xs, rfl, .inl h3, fun hw => ?_, fun _ q2 o hq2 hd => .id ⟨p.trans (.same p.rep (same_new hq2)), ?_⟩⟩
    · have e : cutD i j ds = ds := by
        unfold cutD
        rw [h4.length] at hw
        rw [hw.1, hw.2, List.drop_zero, Nat.sub_zero, List.take_length]
      rw [e]
      exact .id ⟨p, a⟩
    · refine .tupP upd_same hd ?_
      unfold cutV cutD
      rw [h4.length]
      exact ((h4.ext (.of (same_new hq2))).drop _).take _
  · cases h2
theorem el_from {p2 : Pos} (ha : ED B X a fa) (hb : ED B X b fb) : EL B X (.Subscript a (.Slice (some b) none none p2) pos) (lFrom fa fb) := by
  refine el_of (pe_slice sl_list ha.pe (po_some hb.pe) po_none) fun σ H ρ ds ρ' r hf => ?_
  obtain ⟨⟨x, ρ1⟩, h1, h2⟩ := bind2 hf
  obtain ⟨⟨y, ρ2⟩, h3, h4⟩ := bind2 h2
  refine ⟨ρ, x, ρ1, r, h1, fun v H1 p1 a1 => ⟨ρ1, y, ρ2, p1.rep, h3, fun u H2 p2 a2 => ?_⟩⟩
  dsimp only at h4
  split at h4
  · obtain ⟨rfl, rfl⟩ := pair2 h4
    obtain ⟨q, o, xs, rfl, h5, h6⟩ := (a1.ext p2.ext).lst_inv
    refine ⟨_, a2.int_inv, q, xs, rfl, .inl (.inr ⟨o, h5⟩), fun q2 hq2 => .id ⟨q2, _, rfl, (p1.trans p2).alive q2 hq2, upd_same, ?_, (p1.trans p2).trans (.same p2.rep (same_new hq2))⟩⟩
    unfold cutV cutD
    rw [h6.length]
    exact ((h6.ext (.of (same_new hq2))).drop _).take _
  · cases h4
/-! ### new lists -/
theorem el_list {p : Pos} (hm : X.mg "list" = none) (ha : ED B X a fa) (hg : Gl X "list" := by rfl) (hs : starEach [a] X.env = [(false, eval a X.env)] := by rfl) : EL B X (.Call (.Name "list" p) [a] [] pos) (lList fa) := by
  refine el_of (pe_callTy (T := "list") call_list_of hg hm (by decide +kernel) (pa_cons ha.pe pa_nil (by rw [hs]; rfl)) (by decide) (by decide) (by rw [hs]; rfl) (by rfl)) fun σ H ρ ds ρ' r hf => ?_
  obtain ⟨⟨x, ρ1⟩, h1, h2⟩ := bind2 hf
  obtain ⟨ys, h3, h4⟩ := bind2 h2
  obtain ⟨rfl, rfl⟩ := pair2 h4
  refine ⟨ρ, x, ρ1, r, h1, fun v H1 p1 a1 => ?_⟩
  obtain ⟨q, us, rfl, h5, h6⟩ := a1.items (K := X.K) h3
  exact ⟨q, us, rfl, h5, fun l hl => .id ⟨l, us, rfl, p1.alive l hl, upd_same, h6.ext (.of (same_new hl)), p1.trans (.same p1.rep (same_new hl))⟩⟩
theorem frz_lst {q : Addr} {o : Obj} {xs : List V} {pins : List (Addr × Obj)} {s : Shared} (I : Inv X pins σ H s) (h : H q = some (.frz o (.lst xs))) : xs.length ≤ sizeLine ∧ ∃ (its : List Value) (n : Nat), Vals xs its ∧ xs.length = its.length ∧ s.heap.get? q = some { cls := .type "list", data := .seq its.toArray n } := by
  obtain ⟨_, z, its, n, r, e⟩ := I.hok q _ h
  exact ⟨z, its, n, r, r.length, e⟩
theorem op_catF : OpR X (binaryOp .Add) (fun x y H Q => ∃ l b o1 o2 xs zs, x = .ref l ∧ y = .ref b ∧ H l = some (.frz o1 (.lst xs)) ∧ H b = some (.frz o2 (.lst zs)) ∧ xs.length + zs.length ≤ sizeLine ∧ ∀ p, H p = none → Q (.ref p) (upd H p (.lst (xs ++ zs)))) := by
  intro pins s σ H x y v u Q I rx ry h
  obtain ⟨l, b, o1, o2, xs, zs, rfl, rfl, hH, hB, hz, q⟩ := h
  cases rx
  cases ry
  obtain ⟨z, its, n, r, hl, e⟩ := frz_lst I hH
  obtain ⟨z2, its2, n2, r2, hl2, e2⟩ := frz_lst I hB
  refine PySem.P.add_list e e2 ?_ (by rw [List.size_toArray, List.size_toArray]; omega)
  have ea : its.toArray ++ its2.toArray = (its ++ its2).toArray := by simp
  rw [ea]
  exact ⟨.ref _, _, I.lnew (t' := s.toks) (r.append r2) (by rw [List.length_append]; omega), rfl, q _ I.fresh⟩
theorem el_add (ha : ED B X a fa) (hb : ED B X b fb) : EL B X (.BinOp a .Add b pos) (lAdd fa fb) := by
  refine el_of (pe_op op_catF ha.pe hb.pe) fun σ H ρ ds ρ' r hf => ?_
  obtain ⟨⟨x, ρ1⟩, h1, h2⟩ := bind2 hf
  obtain ⟨⟨y, ρ2⟩, h3, h4⟩ := bind2 h2
  refine ⟨ρ, x, ρ1, r, h1, fun v H1 p1 a1 => ⟨ρ1, y, ρ2, p1.rep, h3, fun u H2 p2 a2 => ?_⟩⟩
  dsimp only at h4
  split at h4
  · split at h4
    · rename_i hz
      obtain ⟨rfl, rfl⟩ := pair2 h4
      obtain ⟨q, o, xs, rfl, h5, h6⟩ := (a1.ext p2.ext).lst_inv
      obtain ⟨q', o', ys, rfl, h7, h8⟩ := a2.lst_inv
      rw [← h6.length, ← h8.length] at hz
      exact ⟨q, q', o, o', xs, ys, rfl, rfl, h5, h7, small_le hz, fun l hl => .id ⟨l, _, rfl, (p1.trans p2).alive l hl, upd_same, (h6.append h8).ext (.of (same_new hl)), (p1.trans p2).trans (.same p2.rep (same_new hl))⟩⟩
    · cases h4
  · cases h4
theorem el_rep (ha : EL B X a g) (hb : ED B X b fb) : EL B X (.BinOp a .Mult b pos) (lRep g fb) := by
  refine el_of (pe_op op_rep ha.pe hb.pe) fun σ H ρ ds ρ' r hf => ?_
  obtain ⟨⟨x, ρ1⟩, h1, h2⟩ := bind2 hf
  obtain ⟨⟨y, ρ2⟩, h3, h4⟩ := bind2 h2
  refine ⟨ρ, x, ρ1, r, h1, fun q xs H1 hq h5 a1 p1 => ⟨ρ1, y, ρ2, p1.rep, h3, fun u H2 p2 a2 => ?_⟩⟩
  dsimp only at h4
  split at h4
  · split at h4
    · rename_i k hz
      obtain ⟨rfl, rfl⟩ := pair2 h4
      simp only [Bool.and_eq_true, decide_eq_true_eq] at hz
      have nq := r.fresh hq
      have e2 := p2.fr q _ h5 (.inr fun _ z => nomatch z) (.inr ⟨fun z => nq.2.2 (p1.own q z), nq.2.1⟩)
      have hl : xs.length ≤ 1000 := by rw [a1.length]; exact hz.2
      refine ⟨q, k, xs, rfl, a2.int_inv, e2, by omega, by omega, ?_, fun l hl => .id ⟨l, _, rfl, (p1.trans p2).alive l hl, upd_same, ((a1.ext p2.ext).ext (.of (same_new hl))).rep _, (p1.trans p2).trans (.same p2.rep (same_new hl))⟩⟩
      rw [sizeLine_eq]
      have := Nat.mul_le_mul hl (show k.toNat ≤ 1000 by omega)
      omega
    · cases h4
  · cases h4
end
end Dl
end
section
set_option Elab.async false
set_option linter.all false
set_option autoImplicit false
set_option maxRecDepth 100000
set_option maxHeartbeats 2000000
/-! Rules5: dicts. -/
namespace Dl
open PySem PySem.Spec PyProof.Rows L2
mutual
theorem toK_data : ∀ k : NestedKey, toK k.data = some k
  | .none => rfl
  | .num i => rfl
  | .text x => rfl
  | .tup ks => by
    rw [NestedKey.data, toK, toKs_datas ks]
    rfl
theorem toKs_datas : ∀ ks : List NestedKey, toKs (NestedKey.datas ks) = some ks
  | [] => rfl
  | k :: ks => by
    rw [NestedKey.datas, toKs, toK_data k]
    show (toKs (NestedKey.datas ks)).bind _ = _
    rw [toKs_datas ks]
    rfl
end
mutual
theorem data_toK : ∀ (d : PyData) (k : NestedKey), toK d = some k → d = k.data
  | .none, k, h => by cases Option.some.inj h; rfl
  | .int i, k, h => by cases Option.some.inj h; rfl
  | .str i, k, h => by cases Option.some.inj h; rfl
  | .tuple ds, k, h => by
    obtain ⟨ks, h1, h2⟩ := bind2 h
    cases Option.some.inj h2
    rw [NestedKey.data, data_toKs ds ks h1]
  | .bool _, k, h => by cases h
  | .list _, k, h => by cases h
  | .dict _, k, h => by cases h
theorem data_toKs : ∀ (ds : List PyData) (ks : List NestedKey), toKs ds = some ks → ds = NestedKey.datas ks
  | [], ks, h => by cases Option.some.inj h; rfl
  | d :: ds, ks, h => by
    obtain ⟨k, h1, h2⟩ := bind2 h
    obtain ⟨ls, h3, h4⟩ := bind2 h2
    cases Option.some.inj h4
    rw [NestedKey.datas, data_toK d k h1, data_toKs ds ls h3]
end
theorem toKey_inv {d : PyData} {k : NestedKey} (h : toKey d = some k) : toK d = some k ∧ d = k.data ∧ k.depth ≤ 8 ∧ ∃ ks, k = .tup ks := by
  obtain ⟨k', h1, h2⟩ := bind2 h
  cases k' with
  | tup ks =>
    dsimp only at h2
    split at h2
    · rename_i hd
      cases Option.some.inj h2
      exact ⟨h1, data_toK _ _ h1, of_decide_eq_true hd, ks, rfl⟩
    · cases h2
  | _ => cases h2
section
variable {P : Program} {w : World} {B : Base} {H H' H1 H2 : Hp} {σ : L2.St} {ρ ρ' ρ1 ρ2 : DEnv} {X : Cx} {e a b c : Expr} {f fa fb fc : M PyData} {t u : M Bool} {g : M (List PyData)} {pins : List (Addr × Obj)} {s : Shared} {pos p : Pos}
/-! ### dicts with texts as keys -/
theorem frz_to {q : Addr} {u : HO} {Q : Hp → Prop} (h : H q = some u) (mu : Mut (some u)) (k : ∀ od, Q (upd H q (.frz od u))) : Gh X σ H Q := gh_lock h mu k
theorem upd_upd {q : Addr} {o o' : HO} : upd (upd H q o) q o' = upd H q o' := by
  funext b
  by_cases e : b = q
  · rw [e, upd_same, upd_same]
  · rw [upd_ne e, upd_ne e, upd_ne e]
theorem ed_dict0 {pos : Pos} : ED B X (.Dict [] [] pos) (eC (.dict [])) := by
  refine ed_of pe_dnewK fun σ H ρ d ρ' r hf q hq => ?_
  obtain ⟨rfl, rfl⟩ := pair2 hf
  refine gh_lock upd_same True.intro fun od => ?_
  rw [upd_upd]
  exact ⟨.same r (same_new hq), .dK upd_same .nil⟩
theorem any_at : ∀ {ks : List (Key × V)} {kvs : List (Str × PyData)} {x : Str}, AtKs P w H ks (kvs.map fun q => (PyData.str q.1, q.2)) → (ks.any fun kv => decide (kv.1 = .inr x)) = kvs.any fun q => decide (q.1 = x)
  | ks, [], x, h => by cases h; rfl
  | ks, (y, d) :: r, x, h => by
    rw [List.map_cons] at h
    cases h with
    | cons a t =>
      rw [List.any_cons, List.any_cons, any_at t]
      congr 1
      rw [Bool.eq_iff_iff]
      simp
theorem AtKs.maps : ∀ {ks : List (Key × V)} {kvs : List (Str × PyData)} {x : Str} {v : V} {d : PyData}, At P w H v d → AtKs P w H ks (kvs.map fun q => (PyData.str q.1, q.2)) →
    AtKs P w H (ks.map fun kv => if kv.1 = .inr x then (kv.1, v) else kv) ((kvs.map fun q => if q.1 = x then (q.1, d) else q).map fun q => (PyData.str q.1, q.2))
  | ks, [], x, v, d, a, h => by cases h; exact .nil
  | ks, (y, d') :: r, x, v, d, a, h => by
    rw [List.map_cons] at h
    cases h with
    | cons a' t =>
      rw [List.map_cons, List.map_cons, List.map_cons]
      by_cases e : y = x
      · subst e
        rw [if_pos rfl, if_pos rfl]
        exact .cons a (AtKs.maps a t)
      · rw [if_neg e, if_neg (by rintro ⟨⟩; exact e rfl)]
        exact .cons a' (AtKs.maps a t)
theorem AtKs.append : ∀ {ks ls : List (Key × V)} {ds es : List (PyData × PyData)}, AtKs P w H ks ds → AtKs P w H ls es → AtKs P w H (ks ++ ls) (ds ++ es)
  | _, _, _, _, .nil, s => s
  | _, _, _, _, .cons a r, s => .cons a (AtKs.append r s)
theorem AtKs.put {ks : List (Key × V)} {kvs : List (Str × PyData)} {x : Str} {v : V} {d : PyData} (a : At P w H v d) (h : AtKs P w H ks (kvs.map fun q => (PyData.str q.1, q.2))) :
    AtKs P w H (putK ks (.inr x) v) ((putS kvs x d).map fun q => (PyData.str q.1, q.2)) := by
  unfold putK putS
  rw [any_at h]
  split
  · exact h.maps a
  · rw [List.map_append]
    exact h.append (.cons a .nil)
theorem AtKs.merge : ∀ {ls ks : List (Key × V)} {more kvs : List (Str × PyData)}, AtKs P w H ls (more.map fun q => (PyData.str q.1, q.2)) → AtKs P w H ks (kvs.map fun q => (PyData.str q.1, q.2)) →
    AtKs P w H (mergeK ks ls) ((mergeS kvs more).map fun q => (PyData.str q.1, q.2))
  | ls, ks, [], kvs, h, k => by cases h; exact k
  | ls, ks, (x, d) :: more, kvs, h, k => by
    rw [List.map_cons] at h
    cases h with
    | cons a t => exact AtKs.merge (ks := putK ks (.inr x) _) (kvs := putS kvs x d) t (k.put a)
theorem AtKs.length : ∀ {ks : List (Key × V)} {ds : List (PyData × PyData)}, AtKs P w H ks ds → ks.length = ds.length
  | _, _, .nil => rfl
  | _, _, .cons _ r => by rw [List.length_cons, List.length_cons, AtKs.length r]
/-- the pairs of a display -/
structure DP (B : Base) (X : Cx) (pos : Pos) (keys : List (Option Expr)) (values : List Expr) (ps : List (Str × M PyData)) : Prop where
  pps : PPs X pos keys values (ps.map fun q => (tC (.str q.1), tED B X q.2))
theorem dp_nil : DP B X pos [] [] [] := ⟨pps_nil⟩
theorem dp_cons {k : Str} {j : Nat} {p : Pos} {v : Expr} {f : M PyData} {ks : List (Option Expr)} {vs : List Expr} {ps : List (Str × M PyData)} (h : ED B X v f) (r : DP B X pos ks vs ps) : DP B X pos (some (.Constant (.str k) j p) :: ks) (v :: vs) ((k, f) :: ps) :=
  ⟨pps_cons pe_str h.pe r.pps⟩
theorem pairs_read : ∀ {ps : List (Str × M PyData)} {σ : L2.St} {H : Hp} {ρ ρ' : DEnv} {out : List (Str × PyData)} {Q : List (V × V) → Hp → Prop}, Rep X.prog X.w B H σ ρ → ePairs ps ρ = some (out, ρ') →
    (∀ (ks : List (Key × V)) H', Post X.prog X.w B σ ρ ρ' H H' → AtKs X.prog X.w H' ks (out.map fun q => (PyData.str q.1, q.2)) → Q (ks.map fun q => (kV q.1, q.2)) H') → tPairs (ps.map fun q => (tC (.str q.1), tED B X q.2)) σ H Q
  | [], σ, H, ρ, ρ', out, Q, r, h, k => by
    obtain ⟨rfl, rfl⟩ := pair2 h
    exact k [] H (.refl r) .nil
  | (x, f) :: ps, σ, H, ρ, ρ', out, Q, r, h, k => by
    obtain ⟨⟨d, ρ1⟩, h1, h2⟩ := bind2 h
    obtain ⟨⟨o2, ρ2⟩, h3, h4⟩ := bind2 h2
    obtain ⟨rfl, rfl⟩ := pair2 h4
    refine ⟨ρ, d, ρ1, r, h1, fun v H1 p a => pairs_read p.rep h3 fun ks H' q t => ?_⟩
    exact k ((.inr x, v) :: ks) H' (p.trans q) (.cons (a.ext q.ext) t)
theorem ed_disp {keys : List (Option Expr)} {values : List Expr} {ps : List (Str × M PyData)} (h : DP B X pos keys values ps) (hall : keys.all (·.isSome) = true := by rfl) (hl : keys.length = values.length := by rfl) (h0 : keys ≠ [] := by exact fun z => nomatch z) (h15 : keys.length ≤ 15 := by decide) : ED B X (.Dict keys values pos) (eDisp ps) := by
  refine ed_of (pe_disp h.pps hall hl h0 h15) fun σ H ρ d ρ' r hf q hq => ?_
  obtain ⟨⟨out, ρ1⟩, h1, h2⟩ := bind2 hf
  dsimp only at h2
  split at h2
  · rename_i hz
    obtain ⟨rfl, rfl⟩ := pair2 h2
    have p0 : Post X.prog X.w B σ ρ ρ H (upd H q (.dK [])) := .same r (same_new hq)
    refine pairs_read p0.rep h1 fun ks H2 p2 a2 => ?_
    have nq := r.fresh hq
    have e2 : H2 q = some (.dK []) := p2.fr q _ upd_same (.inr fun _ z => nomatch z) (.inr ⟨nq.2.2, nq.2.1⟩)
    have hlen : ks.length ≤ 15 := by
      rw [a2.length, List.length_map]
      exact of_decide_eq_true hz
    refine ⟨e2, ks, rfl, hlen, gh_lock upd_same True.intro fun od => ?_⟩
    rw [upd_upd]
    have ex := ext_but e2 (fun z => z) (upd_but' (o := .frz od (.dK (mergeK [] ks))))
    have pp : Post X.prog X.w B σ ρ ρ1 H (upd H2 q (.frz od (.dK (mergeK [] ks)))) := (p0.trans p2).poke r hq e2 (fun z => z) (fun _ z => nomatch z) (.inr fun _ z => nomatch z) upd_but' ⟨_, upd_same⟩
    exact ⟨pp, .dK upd_same ((a2.merge (kvs := []) .nil).ext ex)⟩
  · cases h2
/-! ### dict(t), t a tuple of pairs -/
theorem pairs_vals (I : Inv X pins σ H s) : ∀ {vs : List V} {ds : List PyData} {us : List Value} {ps : List (Str × PyData)}, AtAll X.prog X.w H vs ds → Vals vs us → pairsD ds = some ps →
    ∃ (Ts : List Addr) (ks : List (Key × V)) (rs : List (Key × Value)) (prs : List (Value × Value)), us = Ts.map Value.ref ∧ KV ks rs ∧ AtKs X.prog X.w H ks (ps.map fun q => (PyData.str q.1, q.2)) ∧ prs.length = Ts.length ∧ rs.length = Ts.length ∧
      (∀ (j : Nat) (k v : Value), prs[j]? = some (k, v) → ∃ T, Ts[j]? = some T ∧ PairAt s.heap T k v) ∧ ∀ (j : Nat) (k v : Value), prs[j]? = some (k, v) → ∃ key, rs[j]? = some (key, v) ∧ (mixKind X.prog X.w).is key k = true
  | _, _, us, ps, .nil, r, h => by
    cases r
    cases Option.some.inj h
    exact ⟨[], [], [], [], rfl, .nil, .nil, rfl, rfl, fun j k v z => by simp at z, fun j k v z => by simp at z⟩
  | _, _, us, ps, .cons (d := d) (ds := ds) a t, r, h => by
    cases r with
    | cons r1 r2 =>
      unfold pairsD at h
      split at h
      · rename_i z
        cases z
      · rename_i x d' r' z
        cases z
        obtain ⟨qs, h1, h2⟩ := bind2 h
        cases Option.some.inj h2
        obtain ⟨Ts, ks, rs, prs, rfl, e1, e2, e3, e4, e5, e6⟩ := pairs_vals I t r2 h1
        obtain ⟨T, xs, rfl, g1, g2⟩ := a.tup_inv
        obtain rfl := (show _ = Value.ref T from r1)
        cases g2 with
        | cons b1 b2 =>
          cases b2 with
          | cons c1 c2 =>
            cases c2
            rw [b1.str_inv] at g1
            obtain ⟨_, its, rv, tt⟩ := g1.ok I.hok
            cases rv with
            | @cons _ u1 _ _ q1 q2 =>
              cases q2 with
              | @cons _ u2 _ _ q3 q4 =>
                cases q4
                refine ⟨T :: Ts, (.inr x, _) :: ks, (.inr x, u2) :: rs, (u1, u2) :: prs, rfl, .cons ⟨rfl, q3⟩ e1, .cons c1 e2, by simp [e3], by simp [e4], fun j k v z => ?_, fun j k v z => ?_⟩
                · cases j with
                  | zero =>
                    cases Option.some.inj z
                    exact ⟨T, rfl, .inl (show s.heap.IsTuple T #[_, _] from tt)⟩
                  | succ j => exact e5 j k v z
                · cases j with
                  | zero =>
                    cases Option.some.inj z
                    exact ⟨.inr x, rfl, kV_is q1⟩
                  | succ j => exact e6 j k v z
      · cases h
theorem cl_dict (hc : X.calm = true) : CallR X (.type "dict") (fun xs H Q => ∃ x d z, xs = [x] ∧ At X.prog X.w H x d ∧ dictD d = some z ∧ ∀ q ks ps, H q = none → z = kvD (mergeS [] ps) → AtKs X.prog X.w (upd H q (.dK (mergeK [] ks))) (mergeK [] ks) ((mergeS [] ps).map fun q => (PyData.str q.1, q.2)) → Q (.ref q) (upd H q (.dK (mergeK [] ks)))) := by
  intro pins s σ H xs us Q I r h
  obtain ⟨x, d, z, rfl, a, hz, q⟩ := h
  unfold dictD at hz
  split at hz
  · rename_i ds
    obtain ⟨hs, hz⟩ := if_inv hz
    obtain ⟨ps, h1, h2⟩ := bind2 hz
    have ez := (Option.some.inj h2).symm
    simp only [Bool.and_eq_true] at hs
    obtain ⟨u, rfl, rx⟩ := vals1 r
    cases a with
    | tup _ n _ =>
      rw [hs.1] at n
      cases n
    | @tupP T o xs _ g1 gd g2 =>
      obtain rfl : u = Value.ref T := rx
      obtain ⟨go, gz, its, rv, oo, e1, e2, n, e3⟩ := I.hok _ _ g1
      rw [go] at e1
      cases e1
      obtain ⟨Ts, ks, rs, prs, rfl, k1, k2, k3, k4, k5, k6⟩ := pairs_vals I g2 rv h1
      have hl : prs.length = ds.length := by rw [k3, ← g2.length, rv.length, List.length_map]
      have hsz : prs.length ≤ sizeLine := by rw [hl]; exact small_le hs.2
      have PA := PairArg.tuple (prog := X.prog) (w := X.w) T (Ts.map Value.ref).toArray (fun j => Ts.getD j 0) prs
      refine call_dict_pairs (knd := mixKind X.prog X.w) (kvs := rs) PA (I.ok.hd hc) ⟨⟨o, n, go, e2, gd, e3⟩, ?_, ?_⟩ ⟨by rw [k4, k3], fun i key v hr => k6 i key v hr⟩ hsz fun h' tk hd' kp => ?_
      · rw [List.size_toArray, List.length_map, k3]
      · intro j k v hj
        obtain ⟨T', j1, j2⟩ := k5 j k v hj
        have eT : Ts.getD j 0 = T' := by rw [List.getD_eq_getElem?_getD, j1]; rfl
        dsimp only
        rw [eT]
        exact ⟨by simp [j1], j2⟩
      · have hm : (s.heap.objs.size == sysModules) = false := beq_eq_false_iff_ne.mpr (Nat.ne_of_gt I.big)
        have hf := I.hok.fresh (Nat.le_refl s.heap.objs.size)
        have hlen : (mergeK [] ks).length ≤ sizeLine := by
          refine Nat.le_trans (length_mergeK ks []) ?_
          rw [List.length_nil, Nat.zero_add, Paired.length k1, k4, ← k3]
          exact hsz
        have J : Inv X pins σ (upd H s.heap.objs.size (.dK (mergeK [] ks))) { s with heap := h', toks := tk } :=
          I.laid (fun b u e => kp b u (fun z => nomatch z) e) (Nat.le_refl _) (show ObjOk X.prog X.w _ _ _ (.dK (mergeK [] ks)) from ⟨hlen, hm, merged [] rs, KV.merge k1 .nil, hd'⟩)
        exact ⟨.ref s.heap.objs.size, _, J, rfl, q _ ks ps hf ez ((k2.merge (kvs := []) .nil).ext (.of (same_new hf)))⟩
  · cases hz
theorem ed_dict {p : Pos} (hm : X.mg "dict" = none) (ha : ED B X a fa) (hc : X.calm = true := by rfl) (hg : Gl X "dict" := by rfl) (hs : starEach [a] X.env = [(false, eval a X.env)] := by rfl) : ED B X (.Call (.Name "dict" p) [a] [] pos) (e1 dictD fa) := by
  refine ed_of (pe_callTy (T := "dict") (cl_dict hc) hg hm (by decide +kernel) (pa_cons ha.pe pa_nil (by rw [hs]; rfl)) (by decide) (by decide) (by rw [hs]; rfl) (by rfl)) fun σ H ρ d ρ' r hf => ?_
  obtain ⟨x, h1, h2⟩ := e1_inv hf
  refine ⟨ρ, x, ρ', r, h1, fun v H1 p1 a1 => ⟨v, x, d, rfl, a1, h2, fun q ks ps hq ez k => gh_lock upd_same True.intro fun od => ?_⟩⟩
  rw [upd_upd]
  subst ez
  have ex : Ext (upd H1 q (.dK (mergeK [] ks))) (upd H1 q (.frz od (.dK (mergeK [] ks)))) := by
    have := ext_but (H := upd H1 q (.dK (mergeK [] ks))) upd_same (fun z => z) (upd_but' (o := .frz od (.dK (mergeK [] ks))))
    rw [upd_upd] at this
    exact this
  exact ⟨p1.trans (.same p1.rep (same_new hq)), .dK upd_same (k.ext ex)⟩
end
end Dl
end
section
set_option Elab.async false
set_option linter.all false
set_option autoImplicit false
set_option maxRecDepth 100000
set_option maxHeartbeats 2000000
/-! Rules6: dicts with tuples as keys; what is walked. -/
namespace Dl
open PySem PySem.Spec PyProof.Rows L2
section
variable {P : Program} {w : World} {B : Base} {H H' H1 H2 : Hp} {σ : L2.St} {ρ ρ' ρ1 ρ2 : DEnv} {X : Cx} {e a b c : Expr} {f fa fb fc : M PyData} {t u : M Bool} {g : M (List PyData)} {pins : List (Addr × Obj)} {s : Shared} {pos p : Pos}
/-! ### dicts with tuples as keys -/
abbrev NRel : NestedKey × Addr × V → NestedKey × Addr × Value → Prop := fun p q => p.1 = q.1 ∧ p.2.1 = q.2.1 ∧ RelV p.2.2 q.2.2
theorem data_inj {k l : NestedKey} (h : k.data = l.data) : k = l := Option.some.inj (by rw [← toK_data k, ← toK_data l, h])
theorem keys_is (I : Inv X pins σ H s) : ∀ {es : NEs} {us : List (NestedKey × Addr × Value)} {ds : List (PyData × PyData)}, AtEs X.prog X.w H es ds → Paired NRel es us → (∀ e ∈ us, e.1.depth ≤ 8) → ∀ x ∈ us, (nestedKind X.prog X.w).is s.heap x.1 x.2.1
  | _, us, _, .nil, r, hd => by
    cases r
    intro x hx
    cases hx
  | _, us, _, .cons k v t, r, hd => by
    cases r with
    | @cons _ q _ qs r1 r2 =>
      intro x hx
      rcases List.mem_cons.mp hx with rfl | hx
      · obtain ⟨e1, e2, _⟩ := r1
        refine ⟨?_, hd _ List.mem_cons_self⟩
        have n := nest I k (u := Value.ref _) rfl (toK_data _)
        rw [← e1, ← e2]
        exact n
      · exact keys_is I t r2 (fun e m => hd e (List.mem_cons_of_mem _ m)) x hx
theorem nd_open {es : NEs} {q : Addr} {ds : List (PyData × PyData)} (I : Inv X pins σ H s) (h : Rd H q (ndO X.prog X.w q es)) (a : AtEs X.prog X.w H es ds) :
    ∃ us, Paired NRel es us ∧ s.heap.DictOfH (nestedKind X.prog X.w) q us ∧ (q == sysModules) = false ∧ es.length ≤ sizeLine ∧ ∀ e ∈ us, e.1.depth ≤ 8 := by
  obtain ⟨⟨us, r, o, des, ep, h1, h2, h3, h4, h5, h6, h7, h8⟩, _⟩ := h.ok I.hok
  exact ⟨us, r, ⟨o, des, ep, h1, h2, h3, h4, keys_is I a r h8, h5⟩, h6, h7, h8⟩
theorem nd_find (I : True) : ∀ {es : NEs} {us : List (NestedKey × Addr × Value)} {kvs : List (NestedKey × PyData)} {k : NestedKey}, AtEs P w H es (kvs.map fun q => (q.1.data, q.2)) → Paired NRel es us →
    (atKey us k = none ∧ valN kvs k = none) ∨ ∃ p d v, atKey us k = some p ∧ valN kvs k = some d ∧ At P w H v d ∧ RelV v p.2
  | _, us, [], k, h, r => by
    cases h
    cases r
    exact .inl ⟨rfl, rfl⟩
  | _, us, (l, d) :: kvs, k, h, r => by
    rw [List.map_cons] at h
    generalize e0 : l.data = ld at h
    cases h with
    | cons a1 a2 t =>
      rename_i k' _ _ _
      cases data_inj e0
      cases r with
      | @cons _ q _ qs r1 r2 =>
        obtain ⟨e1, e2, e3⟩ := r1
        dsimp only at e1 e2 e3
        by_cases e : l = k
        · subst e
          refine .inr ⟨q.2, d, _, ?_, ?_, a2, e3⟩
          · unfold atKey
            rw [List.find?_cons_of_pos (by rw [← e1]; simp)]
            rfl
          · unfold valN
            rw [List.find?_cons_of_pos (by simp)]
            rfl
        · have z1 : atKey (q :: qs) k = atKey qs k := by
            unfold atKey
            rw [List.find?_cons_of_neg (by rw [← e1]; simpa using e)]
          have z2 : valN ((l, d) :: kvs) k = valN kvs k := by
            unfold valN
            rw [List.find?_cons_of_neg (by simpa using e)]
          rw [z1, z2]
          exact nd_find I t r2
def putE (es : NEs) (k : NestedKey) (q : Addr) (v : V) : NEs := if es.any fun e => decide (e.1 = k) then es.map fun e => if e.1 = k then (e.1, e.2.1, v) else e else es ++ [(k, q, v)]
theorem any_es : ∀ {es : NEs} {kvs : List (NestedKey × PyData)} {k : NestedKey}, AtEs P w H es (kvs.map fun q => (q.1.data, q.2)) → (es.any fun e => decide (e.1 = k)) = kvs.any fun q => decide (q.1 = k)
  | _, [], k, h => by cases h; rfl
  | _, (l, d) :: kvs, k, h => by
    rw [List.map_cons] at h
    generalize e0 : l.data = ld at h
    cases h with
    | cons a1 a2 t =>
      cases data_inj e0
      rw [List.any_cons, List.any_cons, any_es t]
theorem AtEs.append : ∀ {ks ls : NEs} {ds es : List (PyData × PyData)}, AtEs P w H ks ds → AtEs P w H ls es → AtEs P w H (ks ++ ls) (ds ++ es)
  | _, _, _, _, .nil, s => s
  | _, _, _, _, .cons k a r, s => .cons k a (AtEs.append r s)
theorem AtEs.maps : ∀ {es : NEs} {kvs : List (NestedKey × PyData)} {k : NestedKey} {v : V} {d : PyData}, At P w H v d → AtEs P w H es (kvs.map fun q => (q.1.data, q.2)) →
    AtEs P w H (es.map fun e => if e.1 = k then (e.1, e.2.1, v) else e) ((kvs.map fun q => if q.1 = k then (q.1, d) else q).map fun q => (q.1.data, q.2))
  | _, [], k, v, d, a, h => by cases h; exact .nil
  | _, (l, d') :: kvs, k, v, d, a, h => by
    rw [List.map_cons] at h
    generalize e0 : l.data = ld at h
    cases h with
    | cons a1 a2 t =>
      cases data_inj e0
      rw [List.map_cons, List.map_cons, List.map_cons]
      by_cases e : l = k
      · subst e
        rw [if_pos rfl, if_pos rfl]
        exact .cons a1 a (AtEs.maps a t)
      · rw [if_neg e, if_neg e]
        exact .cons a1 a2 (AtEs.maps a t)
theorem AtEs.put {es : NEs} {kvs : List (NestedKey × PyData)} {k : NestedKey} {q : Addr} {v : V} {d : PyData} (ak : At P w H (.ref q) k.data) (a : At P w H v d) (h : AtEs P w H es (kvs.map fun q => (q.1.data, q.2))) :
    AtEs P w H (putE es k q v) ((putN kvs k d).map fun q => (q.1.data, q.2)) := by
  unfold putE putN
  rw [any_es h]
  split
  · exact h.maps a
  · rw [List.map_append]
    exact h.append (.cons ak a .nil)
theorem nr_any {k : NestedKey} : ∀ {es : NEs} {us : List (NestedKey × Addr × Value)}, Paired NRel es us → (es.any fun e => decide (e.1 = k)) = (atKey us k).isSome
  | _, _, .nil => rfl
  | _, _, .cons (a := x) (b := y) r t => by
    rw [List.any_cons, r.1]
    by_cases e : y.1 = k
    · unfold atKey
      rw [List.find?_cons_of_pos (by simpa using e)]
      simp [e]
    · have z := nr_any (k := k) t
      unfold atKey at z ⊢
      rw [List.find?_cons_of_neg (by simpa using e), ← z]
      simp [e]
theorem nr_put {es : NEs} {us : List (NestedKey × Addr × Value)} {k : NestedKey} {q : Addr} {v : V} {u : Value} (r : Paired NRel es us) (h : RelV v u) : Paired NRel (putE es k q v) (storedH us k q u) := by
  unfold putE storedH
  rw [nr_any r]
  split
  · have go : ∀ {es : NEs} {us : List (NestedKey × Addr × Value)}, Paired NRel es us → Paired NRel (es.map fun e => if e.1 = k then (e.1, e.2.1, v) else e) (us.map (putAt k u)) := by
      intro es us r
      induction r with
      | nil => exact .nil
      | @cons x y xs ys r1 r2 ih =>
        refine .cons ?_ ih
        unfold putAt
        dsimp only
        by_cases e : y.1 = k
        · rw [if_pos (r1.1.trans e), if_pos e]
          exact ⟨r1.1, r1.2.1, h⟩
        · rw [if_neg (fun z => e (r1.1.symm.trans z)), if_neg e]
          exact r1
    exact go r
  · have go : ∀ {es : NEs} {us : List (NestedKey × Addr × Value)}, Paired NRel es us → Paired NRel (es ++ [(k, q, v)]) (us ++ [(k, q, u)]) := by
      intro es us r
      induction r with
      | nil => exact .cons ⟨rfl, rfl, h⟩ .nil
      | cons r1 r2 ih => exact .cons r1 ih
    exact go r
theorem stored_depth {us : List (NestedKey × Addr × Value)} {k : NestedKey} {q : Addr} {u : Value} (hk : k.depth ≤ 8) (h : ∀ e ∈ us, e.1.depth ≤ 8) : ∀ e ∈ storedH us k q u, e.1.depth ≤ 8 := by
  intro e he
  unfold storedH at he
  split at he
  · obtain ⟨x, hx, rfl⟩ := List.mem_map.mp he
    unfold putAt
    split <;> exact h x hx
  · rcases List.mem_append.mp he with he | he
    · exact h e he
    · rw [List.mem_singleton.mp he]
      exact hk
theorem nd_laid {q : Addr} {es : NEs} {us : List (NestedKey × Addr × Value)} {h' : Heap} (r : Paired NRel es us) (d : h'.DictOfH (nestedKind X.prog X.w) q us) (hs : (q == sysModules) = false) (hl : es.length ≤ sizeLine) (hd : ∀ e ∈ us, e.1.depth ≤ 8) {Hn : Hp} :
    ObjOk X.prog X.w Hn h' q (ndO X.prog X.w q es) := by
  obtain ⟨o, des, ep, h1, h2, h3, h4, _, h5⟩ := d
  refine ⟨⟨us, r, o, des, ep, h1, h2, h3, h4, h5, hs, hl, hd⟩, ⟨o, h1⟩, ?_⟩
  rintro ha hb ⟨us, r, o, des, ep, h1, h2, h3, h4, h5, h6, h7, h8⟩ k
  exact ⟨us, r, o, des, ep, k o h1, h2, h3, h4, h5, h6, h7, h8⟩
/-- d[k] = v, d owned, with tuples as keys -/
theorem nd_set {q bq : Addr} {es : NEs} {ds : List (PyData × PyData)} {kk : NestedKey} {v : V} {vu : Value} {k : Nat} {Q : Unit → Shared → Prop} (hr : Room k X.A) (I : Inv X pins σ H s) (h : H q = some (ndO X.prog X.w q es)) (a : AtEs X.prog X.w H es ds) (ak : At X.prog X.w H (.ref bq) kk.data) (hk : kk.depth ≤ 8)
    (rv : RelV v vu) (hl : es.length < sizeLine) (hq : ∀ s', Inv X pins σ (upd H q (ndO X.prog X.w q (putE es kk bq v))) s' → Q () s') : wpAny (model X.prog X.w) X.A (setItem (.ref q) (.ref bq) vu) Q X.xe s := by
  obtain ⟨us, r, d, h6, h7, h8⟩ := nd_open I (.inl h) a
  have hu := hr.units
  have hlen : us.length = es.length := (Paired.length r).symm
  refine wpAny_setItem_heap (knd := nestedKind X.prog X.w) (k := kk) (show X.A.in1.units + 8 < cLine from by show X.A.units + 1 + 8 < cLine; omega) ⟨nest I ak rfl (toK_data kk), hk⟩ d (fun h' d' sb => hq _ ?_) (by omega)
  refine I.write (t' := s.toks + (nestedKind X.prog X.w).draws kk) (by rw [h]; exact True.intro) (.inl rfl) (fun b ob hb e => (sb.2 b hb).trans e) (let ⟨o, _, _, e, _⟩ := d'; ⟨o, e⟩) ?_
  refine nd_laid (nr_put r rv) d' h6 ?_ (stored_depth hk h8)
  unfold putE
  split
  · rw [List.length_map]; exact h7
  · rw [List.length_append, List.length_singleton]; omega
/-- {} to be a dict with tuples as keys -/
theorem nd_new (I : Inv X pins σ H s) {tk : Nat} : Inv X pins σ (upd H s.heap.objs.size (ndO X.prog X.w s.heap.objs.size [])) { s with heap := s.heap.push { cls := .type "dict", data := .dict #[] }, toks := tk } := by
  refine I.laid (fun b u e => Heap.get?_push_of_some _ e) (Nat.le_refl _) ?_
  exact nd_laid .nil (Heap.DictOfH.new s.heap) (beq_eq_false_iff_ne.mpr (Nat.ne_of_gt I.big)) (Nat.zero_le _) (fun e he => nomatch he)
theorem own_nd {i : Nat} {ds : List (NestedKey × PyData)} (r : Rep P w B H σ ρ) (h : ρ.sl[i]? = some (.nd ds)) : ∃ q es, σ[i]? = some (some (.ref q)) ∧ H q = some (ndO P w q es) ∧ AtEs P w H es (ds.map fun q => (q.1.data, q.2)) ∧ B.T = [] := r.at_ i _ h
theorem ed_getN {k : Nat} (hr : Room k X.A) (i : Nat) {x : Str} {apos : Pos} (hb : ED B X b fb) (hc : ED B X c fc) (hN : X.N[i]? = some x := by rfl) (hv : Vis X.env.scope x := by first | exact Or.inl rfl | exact Or.inr (Or.inl rfl) | exact Or.inr (Or.inr rfl)) (hd : (x == ("__debug__" : Str)) = false := by decide)
    (hcd : (x == ("__classdict__" : Str)) = false := by decide) (m : M2 X (.Name x p) "get" apos b c pos := by exact ⟨rfl, rfl, rfl, rfl⟩) : ED B X (.Call (.Attribute (.Name x p) "get" apos) [b, c] [] pos) (eGetN i fb fc) := by
  refine ⟨fun pins s σ H ρ d ρ' I r hf => ?_⟩
  have hu := hr.units
  obtain ⟨h0, hf⟩ := if_inv hf
  obtain ⟨⟨kd, ρ1⟩, h1, h2⟩ := bind2 hf
  obtain ⟨⟨dd, ρ2⟩, h3, h4⟩ := bind2 h2
  obtain ⟨sl, h5, h6⟩ := bind2 h4
  obtain ⟨ds0, h0⟩ := isN_inv h0
  obtain ⟨q, es0, hq, g1, g2, _⟩ := own_nd r h0
  refine wpAny_Call_method m.base m.few m.line PySem.F.plainAttrs_dict PySem.F.slot_dict_get PySem.F.type_dict_get (thn ((pe_var hN hv hd hcd).run pins s σ H (fun v H1 => v = .ref q ∧ H1 = H) I ⟨_, hq, rfl, rfl⟩) ?_)
  rintro u1 s1 ⟨_, _, I1, r1, rfl, rfl⟩
  obtain rfl : u1 = Value.ref q := r1
  obtain ⟨us0, _, d0, _⟩ := nd_open I1 (.inl g1) g2
  refine ⟨d0.typeIs, fun a ea => ?_, ?_⟩
  · cases ea
    obtain ⟨o, _, _, e1, e2, _⟩ := d0
    exact ⟨o, e1, e2.2.1⟩
  rw [m.trees]
  refine Calls.callWith_builtin rfl (Calls.evalArgs_plain (Calls.spliced_cons (thn (hb.run pins s1 σ _ ρ kd ρ1 I1 r h1) fun iv s2 ⟨y, H2, I2, ry, p2, a2⟩ =>
    Calls.spliced_cons (thn (hc.run pins s2 σ H2 ρ1 dd ρ2 I2 p2.rep h3) fun fv s3 ⟨z, H3, I3, rz, p3, a3⟩ => Calls.spliced_nil ?_))))
  cases sl with
  | nd kvs =>
    obtain ⟨kk, k1, k2⟩ := bind2 h6
    obtain ⟨rfl, rfl⟩ := pair2 k2
    obtain ⟨k3, k4, k5, ks, k6⟩ := toKey_inv k1
    obtain ⟨q', es, e, e1, e2, _⟩ := own_nd p3.rep h5
    cases ref_at hq e
    obtain ⟨us, r2, d2, e6, e7, e8⟩ := nd_open I3 (.inl e1) e2
    have ak := a2.ext p3.ext
    dsimp only at k4
    subst k4
    subst k6
    rw [NestedKey.data] at ak
    obtain ⟨bq, xs, rfl, b1, b2⟩ := ak.tup_inv
    obtain rfl : iv = Value.ref bq := ry
    refine call_meetsIn PySem.F.slot_dict_get d2.typeIs PySem.F.entry_dict_get (PySem.F.args_dict_get_3 _ _ _) (meetsH_dict_get_default (nestedKind X.prog X.w) q bq e6 fv) ⟨show X.A.in1.units + 8 < cLine from by show X.A.units + 1 + 8 < cLine; omega, .tup ks, us, ⟨nest I3 ak rfl (by rw [← NestedKey.data]; exact toK_data _), k5⟩, d2, ?_⟩
    rcases nd_find True.intro (k := .tup ks) e2 r2 with ⟨f1, f2⟩ | ⟨pq, d', v, f1, f2, f3, f4⟩
    · rw [f1, f2]
      exact ⟨z, H3, I3.tok _, rz, p2.trans p3, a3⟩
    · rw [f1, f2]
      exact ⟨v, H3, I3.tok _, f4, p2.trans p3, f3⟩
  | _ => cases h6
/-! ### what is walked -/
structure Wk (P : Program) (w : World) (J : It) (H0 : Hp) (ds : List PyData) : Prop where
  go : ∀ i H, i < ds.length → Ext H0 H → J.go i H
  yld : ∀ i H x H' d, Ext H0 H → J.yld i H x H' → ds[i]? = some d → Same H H' ∧ At P w H' x d
  stop : ∀ H, Ext H0 H → J.stop ds.length H
structure ID (B : Base) (X : Cx) (tg e : Expr) (f : M (List PyData)) : Prop where
  run : ∀ (pins : List (Addr × Obj)) (s : Shared) (σ : L2.St) (H : Hp) (ρ : DEnv) (ds : List PyData) (ρ' : DEnv), Inv X pins σ H s → Rep X.prog X.w B H σ ρ → f ρ = some (ds, ρ') →
    wpAny (model X.prog X.w) X.A (eval e X.env) (fun v s1 => wpAny (model X.prog X.w) X.A (pyIter v) (PIE X pins σ tg fun J H' => Post X.prog X.w B σ ρ ρ' H H' ∧ Wk X.prog X.w J H' ds) X.xe s1) X.xe s
def tID (B : Base) (X : Cx) (f : M (List PyData)) : TI := fun σ H R => ∃ ρ ds ρ', Rep X.prog X.w B H σ ρ ∧ f ρ = some (ds, ρ') ∧ ∀ J H', Post X.prog X.w B σ ρ ρ' H H' → Wk X.prog X.w J H' ds → R J H'
theorem pie_mono {tg : Expr} {R R' : It → Hp → Prop} {v : Value} {s : Shared} (h : PIE X pins σ tg R v s) (k : ∀ J H', R J H' → R' J H') : PIE X pins σ tg R' v s :=
  let ⟨it, fp, tn, J, H', a1, a2, a3, a4, a5, a6⟩ := h
  ⟨it, fp, tn, J, H', a1, a2, a3, a4, a5, k J H' a6⟩
theorem ID.pi {tg : Expr} (h : ID B X tg e g) : PI X tg e (tID B X g) := ⟨fun pins s σ H R I ⟨ρ, ds, ρ', r, hf, k⟩ =>
  thn (h.run pins s σ H ρ ds ρ' I r hf) fun v s1 h1 => thn h1 fun u s2 h2 => pie_mono h2 fun J H' q => k J H' q.1 q.2⟩
theorem id_of {tg : Expr} {wi : TI} (h : PI X tg e wi) (k : ∀ σ H ρ ds ρ', Rep X.prog X.w B H σ ρ → g ρ = some (ds, ρ') → wi σ H fun J H' => Post X.prog X.w B σ ρ ρ' H H' ∧ Wk X.prog X.w J H' ds) : ID B X tg e g :=
  ⟨fun pins s σ H ρ ds ρ' I r hf => h.run pins s σ H _ I (k σ H ρ ds ρ' r hf)⟩
theorem pi_orR {tg : Expr} {w1 w2 : TI} (h1 : PI X tg e w1) (h2 : PI X tg e w2) : PI X tg e (fun σ H R => w1 σ H R ∨ w2 σ H R) :=
  ⟨fun pins s σ H R I h => h.elim (h1.run pins s σ H R I) (h2.run pins s σ H R I)⟩
theorem wk_lst {K : PySem.W.Frag} {q : Addr} {o : Obj} {xs : List V} {ds : List PyData} (h : H q = some (.frz o (.lst xs))) (a : AtAll P w H xs ds) : Wk P w (Itl K q) H ds := by
  have sq : ∀ H', Ext H H' → SqL K H' q xs := fun H' e => .inl (.inr ⟨o, e _ _ h True.intro⟩)
  refine ⟨fun i H' hi e => ?_, fun i H' x H2 d e y hd => ?_, fun H' e => ⟨xs, sq H' e, by rw [a.length]; exact Nat.le_refl _⟩⟩
  · rw [← a.length] at hi
    exact ⟨xs, xs[i], sq H' e, List.getElem?_eq_getElem hi⟩
  · obtain ⟨rfl, y⟩ := y
    obtain ⟨v, h1, h2⟩ := a.get hd
    rw [y xs (sq _ e)] at h1
    cases Option.some.inj h1
    exact ⟨.refl _, h2.ext e⟩
theorem wk_tup {K : PySem.W.Frag} {q : Addr} {xs : List V} {ds : List PyData} (h : Rd H q (.tup xs)) (a : AtAll P w H xs ds) : Wk P w (Itt K q) H ds := by
  have sq : ∀ H', Ext H H' → SqT K H' q xs := fun H' e => .inl (h.elim (fun h => .inl (e _ _ h True.intro)) fun ⟨o, h⟩ => .inr ⟨o, e _ _ h True.intro⟩)
  refine ⟨fun i H' hi e => ?_, fun i H' x H2 d e y hd => ?_, fun H' e => ⟨xs, sq H' e, by rw [a.length]; exact Nat.le_refl _⟩⟩
  · rw [← a.length] at hi
    exact ⟨xs, xs[i], sq H' e, List.getElem?_eq_getElem hi⟩
  · obtain ⟨rfl, y⟩ := y
    obtain ⟨v, h1, h2⟩ := a.get hd
    rw [y xs (sq _ e)] at h1
    cases Option.some.inj h1
    exact ⟨.refl _, h2.ext e⟩
theorem id_dat {tg : Expr} (ha : ED B X a fa) : ID B X tg a (iDat fa) := by
  refine id_of (pi_orR (pi_list ha.pe) (pi_tup ha.pe)) fun σ H ρ ds ρ' r hf => ?_
  obtain ⟨⟨d, ρ1⟩, h1, h2⟩ := bind2 hf
  obtain ⟨ds', h3, h4⟩ := bind2 h2
  obtain ⟨rfl, rfl⟩ := pair2 h4
  cases d with
  | list es =>
    cases Option.some.inj h3
    refine .inl ⟨ρ, _, ρ1, r, h1, fun v H1 p a => ?_⟩
    obtain ⟨q, o, xs, rfl, h5, h6⟩ := a.lst_inv
    exact ⟨q, rfl, ⟨xs, .inl (.inr ⟨o, h5⟩)⟩, p, wk_lst h5 h6⟩
  | tuple es =>
    cases Option.some.inj h3
    refine .inr ⟨ρ, _, ρ1, r, h1, fun v H1 p a => ?_⟩
    obtain ⟨q, xs, rfl, h5, h6⟩ := a.tup_inv
    exact ⟨q, rfl, ⟨xs, .inl h5⟩, p, wk_tup h5 h6⟩
  | _ => cases h3
theorem upFrom_get : ∀ (n : Nat) (lo : Int) (i : Nat), i < n → (upFrom lo n)[i]? = some (.int (lo + i))
  | 0, lo, i, h => by omega
  | n + 1, lo, 0, h => by simp [upFrom]
  | n + 1, lo, i + 1, h => by
    rw [upFrom, List.getElem?_cons_succ, upFrom_get n (lo + 1) i (by omega)]
    congr 2
    push_cast
    omega
theorem upFrom_len : ∀ (n : Nat) (lo : Int), (upFrom lo n).length = n
  | 0, lo => rfl
  | n + 1, lo => by rw [upFrom, List.length_cons, upFrom_len n]
theorem downTo_get (c : Int) : ∀ (n : Nat) (lo : Int) (i : Nat), i < n → (downTo lo c n)[i]? = some (.int (lo + i * c))
  | 0, lo, i, h => by omega
  | n + 1, lo, 0, h => by simp [downTo]
  | n + 1, lo, i + 1, h => by
    rw [downTo, List.getElem?_cons_succ, downTo_get c n (lo + c) i (by omega)]
    congr 2
    push_cast
    rw [Int.add_mul, Int.one_mul]
    omega
theorem downTo_len (c : Int) : ∀ (n : Nat) (lo : Int), (downTo lo c n).length = n
  | 0, lo => rfl
  | n + 1, lo => by rw [downTo, List.length_cons, downTo_len c n]
theorem id_range {tg : Expr} {p : Pos} (hm : X.mg "range" = none) (ha : ED B X a fa) (hg : Gl X "range" := by rfl) (hs : starEach [a] X.env = [(false, eval a X.env)] := by rfl) : ID B X tg (.Call (.Name "range" p) [a] [] pos) (iRange fa) := by
  refine id_of (pi_range1 hg hm (pa_cons ha.pe pa_nil (by rw [hs]; rfl)) hs) fun σ H ρ ds ρ' r hf => ?_
  obtain ⟨⟨d, ρ1⟩, h1, h2⟩ := bind2 hf
  cases d with
  | int n =>
    obtain ⟨h3, h4⟩ := if_inv h2
    obtain ⟨rfl, rfl⟩ := pair2 h4
    simp only [fits62, Bool.and_eq_true, decide_eq_true_eq] at h3
    refine ⟨ρ, _, ρ1, r, h1, fun v H1 p a => ⟨n, by rw [a.int_inv], h3.1, h3.2, p, ?_⟩⟩
    refine ⟨fun i H hi _ => by rw [upFrom_len] at hi; exact hi, fun i H x H' d _ y hd => ?_, fun H _ => by rw [upFrom_len]; exact Nat.le_refl _⟩
    obtain ⟨rfl, rfl⟩ := y
    have hi := (List.getElem?_eq_some_iff.mp hd).1
    rw [upFrom_len] at hi
    rw [upFrom_get _ _ _ hi] at hd
    cases Option.some.inj hd
    exact ⟨.refl _, .int _⟩
  | _ => cases h2
theorem down_size {i j c : Int} (hc : c < 0) : Builtin.Range.rangeSize i j c = (turnsDown i j c : Nat) := by
  unfold Builtin.Range.rangeSize turnsDown
  rw [if_neg (show ¬ c > 0 by omega)]
  by_cases h : i ≤ j
  · rw [if_neg (show ¬ i > j by omega), if_pos h]
    rfl
  · have hn : 0 ≤ (i - j - 1) / (-c) := Int.ediv_nonneg (by omega) (by omega)
    rw [if_pos (show i > j by omega), if_neg h, Int.toNat_of_nonneg (by omega)]
theorem down_ok {i j c : Int} (hc : c < 0) (hc2 : -1073741824 < c) (h1 : -(2 ^ 60) ≤ i) (h2 : i < 2 ^ 60) (h3 : -(2 ^ 60) ≤ j) (h4 : j < 2 ^ 60) : RgC i j c (turnsDown i j c) := by
  refine ⟨by omega, by omega, ?_, down_size hc⟩
  have hz : 0 ≤ Builtin.Range.rangeSize i j c ∧ Builtin.Range.rangeSize i j c ≤ 2 ^ 62 := by
    unfold Builtin.Range.rangeSize
    rw [if_neg (show ¬ c > 0 by omega)]
    split
    · have hn : 0 ≤ (i - j - 1) / (-c) := Int.ediv_nonneg (by omega) (by omega)
      have hm : (i - j - 1) / (-c) ≤ i - j - 1 := Int.ediv_le_self _ (by omega)
      omega
    · omega
  unfold Builtin.Range.small
  generalize Builtin.Range.rangeSize i j c = n at hz
  simp only [Builtin.Range.rangeFitsLong, Bool.and_eq_true, Bool.or_eq_true, decide_eq_true_eq, beq_iff_eq, show ¬ (c > 0) by omega, if_false]
  omega
theorem id_range3 {tg : Expr} {p : Pos} (hm : X.mg "range" = none) (ha : ED B X a fa) (hb : ED B X b fb) (hc : ED B X c fc) (hg : Gl X "range" := by rfl) (hs : starEach [a, b, c] X.env = [(false, eval a X.env), (false, eval b X.env), (false, eval c X.env)] := by rfl) (hs2 : starEach [b, c] X.env = [(false, eval b X.env), (false, eval c X.env)] := by rfl)
    (hs3 : starEach [c] X.env = [(false, eval c X.env)] := by rfl) : ID B X tg (.Call (.Name "range" p) [a, b, c] [] pos) (iRange3 fa fb fc) := by
  refine id_of (pi_range3 hg hm (pa_cons ha.pe (pa_cons hb.pe (pa_cons hc.pe pa_nil (by rw [hs3]; rfl)) (by rw [hs2, hs3])) (by rw [hs, hs2])) (by rw [hs, hs2]) (by rw [hs2]; rfl)) fun σ H ρ ds ρ' r hf => ?_
  obtain ⟨⟨x, ρ1⟩, h1, h2⟩ := bind2 hf
  obtain ⟨⟨y, ρ2⟩, h3, h4⟩ := bind2 h2
  obtain ⟨⟨z, ρ3⟩, h5, h6⟩ := bind2 h4
  dsimp only at h6
  split at h6
  · rename_i i j k
    obtain ⟨h7, h8⟩ := if_inv h6
    obtain ⟨rfl, rfl⟩ := pair2 h8
    simp only [Bool.and_eq_true, decide_eq_true_eq] at h7
    obtain ⟨⟨⟨⟨⟨g1, g2⟩, g3⟩, g4⟩, g5⟩, g6⟩ := h7
    refine ⟨ρ, _, ρ1, r, h1, fun v H1 p1 a1 => ⟨ρ1, _, ρ2, p1.rep, h3, fun v2 H2 p2 a2 => ⟨ρ2, _, ρ3, p2.rep, h5, fun v3 H3 p3 a3 => ⟨i, j, k, _, by rw [a1.int_inv, a2.int_inv, a3.int_inv], down_ok g1 g2 g3 g4 g5 g6, (p1.trans p2).trans p3, ?_⟩⟩⟩⟩
    refine ⟨fun i H hi _ => by rw [downTo_len] at hi; exact hi, fun i H x H' d _ y hd => ?_, fun H _ => by rw [downTo_len]; exact Nat.le_refl _⟩
    obtain ⟨rfl, rfl⟩ := y
    have hi := (List.getElem?_eq_some_iff.mp hd).1
    rw [downTo_len] at hi
    rw [downTo_get _ _ _ _ hi] at hd
    cases Option.some.inj hd
    exact ⟨.refl _, .int _⟩
  · cases h6
end
end Dl
end
section
set_option Elab.async false
set_option linter.all false
set_option autoImplicit false
set_option maxRecDepth 100000
set_option maxHeartbeats 2000000
/-! Rules7: enumerate, the items of a dict. -/
namespace Dl
open PySem PySem.Spec PyProof.Rows L2
/-! ### enumerate(t), t a tuple -/
theorem enum_made (T : Addr) (items : Array Value) :
    Meets (Builtin.«enumerate.__new__» ⟨[.type "enumerate", .ref T], []⟩) (fun _ R s => s.heap.IsTuple T items ∧
      R (.ok (.ret (.ref (s.heap.push { cls := .type "tuple_iterator", data := .fields #[.ref T, .int 0 0] }).objs.size)))
        { s with heap := (s.heap.push { cls := .type "tuple_iterator", data := .fields #[.ref T, .int 0 0] }).push { cls := .type "enumerate", data := .fields #[.none, .bool false, .ref s.heap.objs.size, rawInt 0, .none, .none] } }) :=
  .of_wp fun prog w A R ⟨hp, g, d, tk, os⟩ ⟨ht, fin⟩ => by
    have hsub := sub_enumerate
    have hit : ∀ {A' : Around} {E : Value → Shared → Prop} {Q : Value → Shared → Prop}, Q (.ref hp.objs.size) ⟨hp.push { cls := .type "tuple_iterator", data := .fields #[.ref T, .int 0 0] }, g, d, tk, os⟩ → wpAny (model prog w) A' (pyIter (.ref T)) Q E ⟨hp, g, d, tk, os⟩ :=
      fun q => (begins_tuple T items).iter prog w _ _ ⟨hp, g, d, tk, os⟩ _ ht q
    wp_walk using hit
    refine wpAny_stack_any fun st => wpAny_pure ?_
    split
    · rename_i cc _ _ _ _ _
      cases (cc == Value.type "enumerate") <;> (wp_walk using hit; exact ⟨_, rfl, fin⟩)
    · wp_walk using hit
      exact ⟨_, rfl, fin⟩
section
variable {prog : Program} {w : World} {A : Around} {E : Value → Shared → Prop} {s : Shared}
theorem enum_call {T : Addr} {items : Array Value} {Q : Value → Shared → Prop} (ht : s.heap.IsTuple T items)
    (k : ∀ h', IsEnum h' (s.heap.objs.size + 1) s.heap.objs.size ((0 : Nat) : Int) .none → h'.IsTupleIter s.heap.objs.size T 0 → (∀ b o, s.heap.get? b = some o → h'.get? b = some o) → Q (.ref (s.heap.objs.size + 1)) { s with heap := h' }) :
    wpAny (model prog w) A (call (.type "enumerate") [.ref T]) Q E s := by
  refine callType_new F.called_enumerate (by decide) (F.typeCall_enumerate_1 _) (F.newCall_enumerate_1 _) (fun obj => F.args_object_init_2 obj _) F.entry_enumerate_new (enum_made T items) ⟨ht, ?_⟩
  generalize hti : ({ cls := .type "tuple_iterator", data := .fields #[.ref T, .int 0 0] } : Obj) = ti
  have hz : (s.heap.push ti).objs.size = s.heap.objs.size + 1 := Heap.size_push ..
  have fr : ti.isFreed = false := by rw [← hti]; rfl
  have he : IsEnum ((s.heap.push ti).push { cls := .type "enumerate", data := .fields #[.none, .bool false, .ref s.heap.objs.size, rawInt 0, .none, .none] }) (s.heap.objs.size + 1) s.heap.objs.size ((0 : Nat) : Int) .none := by
    rw [← hz]
    exact Heap.get?_push_size (s.heap.push ti) rfl
  show _ ∧ _
  rw [hz]
  exact ⟨⟨_, he, rfl⟩, k _ he ⟨ti, Heap.get?_push_of_some _ (Heap.get?_push_size _ fr), by rw [← hti], by rw [← hti]; rfl⟩ fun b o z => Heap.get?_push_of_some _ (Heap.get?_push_of_some _ z)⟩
end
/-- the tuple at a, each item in a new pair -/
def Itu (K : PySem.W.Frag) (a : Addr) (xs : List V) : It :=
  ⟨fun i H => SqT K H a xs ∧ i < xs.length, fun i H v H' => ∃ T x, v = .ref T ∧ H T = none ∧ H' = upd H T (.tup [.int (i : Nat), x]) ∧ xs[i]? = some x, fun i H => SqT K H a xs ∧ i = xs.length⟩
section
variable {X : Cx} {pins : List (Addr × Obj)} {σ : L2.St} {H : Hp} {s : Shared}
theorem dr_tup {prog : Program} {w : World} {A : Around} (hh : A.handled = none) (it t : Addr) (hne : t ≠ it) (items : Array Value) : Draws prog w A.in1 it [it, t] items.size (fun i v => items[i]? = some v) (fun i h => h.IsTupleIter it t i ∧ h.IsTuple t items) := Draws.tuple (A := A.in1) hh it t hne items
theorem turn_enumT {P : Program} {w : World} {K : PySem.W.Frag} {elts : List Expr} {kk : Nat} {tpos : Pos} (a e it : Addr) (xs : List V) :
    Turn P w K (.Tuple elts kk tpos) (Itu K a xs) [e, it] e (fun i h => (∃ old, IsEnum h e it ((i : Nat) : Int) old) ∧ h.IsTupleIter it a i ∧ e ≠ it) where
  mem := by simp
  obj := fun i h ⟨⟨old, he⟩, ⟨o, ho, hc, hd⟩, _⟩ b hb => by
    rcases List.mem_cons.mp hb with rfl | hb
    · exact ⟨_, he, fun v q => nomatch q⟩
    · rw [List.mem_singleton.mp hb]
      exact ⟨o, ho, fun v q => by rw [hd] at q; cases q⟩
  keep := fun i h h' ⟨⟨old, he⟩, hi, hne⟩ k => ⟨⟨old, k e (by simp) _ he⟩, hi.at fun o q => k it (by simp) o q, hne⟩
  item := by
    intro X hP hw hK hc i pins s σ H E I hf ⟨⟨old, he⟩, hit, hne⟩ ⟨hq, hi⟩
    subst hP hw hK
    obtain ⟨us, rv, pt, hz⟩ := I.tuple hq
    obtain ⟨u, hu, ru⟩ := rv.get (List.getElem?_eq_getElem hi)
    have hel : e < s.heap.objs.size := Heap.lt_size he
    have hil : it < s.heap.objs.size := let ⟨_, q, _⟩ := hit; Heap.lt_size q
    have hta : a ≠ it := fun z => by
      obtain ⟨o1, q1, c1, _⟩ := hit
      obtain ⟨o2, q2, c2, _⟩ := pt
      rw [z, q1] at q2
      cases q2
      rw [c1] at c2
      exact absurd c2 (by decide +kernel)
    have hae : e ≠ a := fun z => by
      obtain ⟨o2, q2, c2, _⟩ := pt
      rw [← z, he] at q2
      cases q2
      exact absurd (show Value.type "enumerate" = Value.type "tuple" from c2) (by decide +kernel)
    refine wpAny_pyNext_enum_itemD (dr_tup (I.ok.hd hc) it a hta us.toArray) he ⟨hit, pt⟩ (by rw [List.size_toArray, ← rv.length]; exact hi) hne (by simp [hne, hae]) fun x h' tk px ho st' hT hsz hk => ?_
    have ex : x = u := by
      have px : us.toArray[i]? = some x := px
      rw [List.getElem?_toArray, hu] at px
      exact (Option.some.inj px).symm
    subst ex
    refine ⟨_, rfl, wpAny_letOwnedTupleGo_enum (s := { s with heap := h', toks := tk + 1 }) ho fun h'' he' sb => ?_⟩
    have hT2 : h''.get? s.heap.objs.size = some { cls := .type "tuple", data := .seq #[.int i tk, x] } := (sb.2 _ (Nat.ne_of_gt hel)).trans hT
    have J : Inv X pins σ (upd H s.heap.objs.size (.tup [.int (i : Nat), xs[i]])) { s with heap := h'', toks := tk + 1 } := by
      refine I.turnedNew (ch := [e, it]) (fun b o hb q => ?_) hf (Nat.le_refl _) ⟨by show 2 ≤ sizeLine; decide, [.int i tk, x], .cons ⟨_, rfl⟩ (.cons ru .nil), ⟨_, hT2, rfl, _, rfl⟩⟩
      simp only [List.mem_cons, List.mem_nil_iff, or_false, not_or] at hb
      exact (sb.2 b hb.1).trans (hk b o hb.1 hb.2 q)
    refine ⟨.ref s.heap.objs.size, _, J, rfl, ⟨_, _, rfl, I.hok.fresh (Nat.le_refl _), rfl, List.getElem?_eq_getElem hi⟩, ⟨⟨x, ?_⟩, st'.1.at fun o q => (sb.2 it (Ne.symm hne)).trans q, hne⟩, fun b hb => ?_⟩
    · rw [show ((i + 1 : Nat) : Int) = (i : Int) + 1 by omega]
      exact he'
    · have hlt : b < s.heap.objs.size := by
        rcases List.mem_cons.mp hb with rfl | hb'
        · exact hel
        · rw [List.mem_singleton.mp hb']; exact hil
      rw [upd_ne (Nat.ne_of_lt hlt)]
      exact (hf b hb).1
  done := by
    intro X hP hw hK hc i pins s σ H E I hf ⟨⟨old, he⟩, hit, hne⟩ ⟨hq, hi⟩
    subst hP hw hK
    obtain ⟨us, rv, pt, hz⟩ := I.tuple hq
    obtain ⟨f0, f1, f2, f3, f4, f5⟩ := hf it (by simp)
    have hta : a ≠ it := fun z => by
      obtain ⟨o1, q1, c1, _⟩ := hit
      obtain ⟨o2, q2, c2, _⟩ := pt
      rw [z, q1] at q2
      cases q2
      rw [c1] at c2
      exact absurd c2 (by decide +kernel)
    have e : i = us.toArray.size := by rw [List.size_toArray, ← rv.length]; exact hi
    subst e
    exact wpAny_pyNext_enum_endD (dr_tup (I.ok.hd hc) it a hta us.toArray) he ⟨hit, pt⟩ fun h' eb => ⟨rfl, I.turned (t' := s.toks) (fun b o hb q => eb b o hb q) f0 f1 f3 f4 f5⟩
  self := fun A i s Q E ⟨⟨_, he⟩, _⟩ h => wpAny_pyIter_enum he h
def iEnumT (K : PySem.W.Frag) (ta : TA) : TI := fun σ H R => ta σ H fun vs H1 => ∃ a xs, vs = [.ref a] ∧ SqT K H1 a xs ∧ R (Itu K a xs) H1
theorem pi_enumT {e : Expr} {ta : TA} {p pos tpos : Pos} {elts : List Expr} {kk : Nat} (hg : Gl X "enumerate") (hm : X.mg "enumerate" = none) (ha : PA X [e] ta) (hs : starEach [e] X.env = [(false, eval e X.env)]) :
    PI X (.Tuple elts kk tpos) (.Call (.Name "enumerate" p) [e] [] pos) (iEnumT X.K ta) := by
  refine ⟨fun pins s σ H R I h => Call_ (ld_blt I hg hm boot_enumerate (PyProof.Rows.callWith_type1 (thn (ha.run pos pins s σ H _ I h) fun us s1 ⟨vs, H1, I1, r1, a, xs, ev, hq, q⟩ => ?_) hs rfl))⟩
  subst ev
  obtain ⟨u, rfl, rx⟩ := vals1 r1
  obtain rfl : u = Value.ref a := rx
  obtain ⟨ws, rv, pt, _⟩ := I1.tuple hq
  refine enum_call (items := ws.toArray) pt fun h' he hit kp => wpAny_pyIter_enum he ?_
  refine ⟨s1.heap.objs.size + 1, [s1.heap.objs.size + 1, s1.heap.objs.size], _, _, H1, rfl, I1.kept (t' := s1.toks) kp, turn_enumT a (s1.heap.objs.size + 1) s1.heap.objs.size xs, ⟨⟨.none, he⟩, hit, Nat.succ_ne_self _⟩, fun b hb => ?_, q⟩
  have hle : s1.heap.objs.size ≤ b := by
    rcases List.mem_cons.mp hb with rfl | hb'
    · exact Nat.le_add_right _ _
    · rw [List.mem_singleton.mp hb']; exact Nat.le_refl _
  exact I1.fpOk hle (I1.hok.fresh hle)
end
section
variable {P : Program} {w : World} {B : Base} {H H' H1 H2 : Hp} {σ : L2.St} {ρ ρ' ρ1 ρ2 : DEnv} {X : Cx} {e a b c : Expr} {f fa fb fc : M PyData} {g : M (List PyData)} {pins : List (Addr × Obj)} {s : Shared} {pos p : Pos}
theorem numFrom_get : ∀ (ds : List PyData) (n : Int) (i : Nat) (d : PyData), (numFrom n ds)[i]? = some d → ∃ x, ds[i]? = some x ∧ d = .tuple [.int (n + i), x]
  | [], n, i, d, h => by simp [numFrom] at h
  | x :: ds, n, 0, d, h => by
    rw [numFrom, List.getElem?_cons_zero] at h
    cases Option.some.inj h
    exact ⟨x, rfl, by simp⟩
  | x :: ds, n, i + 1, d, h => by
    rw [numFrom, List.getElem?_cons_succ] at h
    obtain ⟨y, h1, h2⟩ := numFrom_get ds (n + 1) i d h
    refine ⟨y, h1, ?_⟩
    rw [h2]
    congr 3
    push_cast
    omega
theorem numFrom_len : ∀ (ds : List PyData) (n : Int), (numFrom n ds).length = ds.length
  | [], n => rfl
  | d :: ds, n => by rw [numFrom, List.length_cons, List.length_cons, numFrom_len ds]
theorem pair_new {T : Addr} {x y : V} {d z : PyData} (n : H T = none) (ax : At P w H x d) (ay : At P w H y z) (hp : pairish [d, z] = false) : At P w (upd H T (.tup [x, y])) (.ref T) (.tuple [d, z]) :=
  .tup upd_same hp (.cons (ax.ext (.of (same_new n))) (.cons (ay.ext (.of (same_new n))) .nil))
theorem wk_enum {K : PySem.W.Frag} {q : Addr} {o : Obj} {xs : List V} {ds : List PyData} (h : H q = some (.frz o (.lst xs))) (a : AtAll P w H xs ds) : Wk P w (Ite K q) H (numFrom 0 ds) := by
  have sq : ∀ H', Ext H H' → SqL K H' q xs := fun H' e => .inl (.inr ⟨o, e _ _ h True.intro⟩)
  refine ⟨fun i H' hi e => ?_, fun i H' x H2 d e y hd => ?_, fun H' e => ⟨xs, sq H' e, by rw [numFrom_len, a.length]; exact Nat.le_refl _⟩⟩
  · rw [numFrom_len, ← a.length] at hi
    exact ⟨xs, xs[i], sq H' e, List.getElem?_eq_getElem hi⟩
  · obtain ⟨T, z, rfl, hn, rfl, y⟩ := y
    obtain ⟨x', h1, rfl⟩ := numFrom_get _ _ _ _ hd
    obtain ⟨v, h2, h3⟩ := a.get h1
    rw [y xs (sq _ e)] at h2
    cases Option.some.inj h2
    refine ⟨same_new hn, ?_⟩
    rw [Int.zero_add]
    exact pair_new hn (.int _) (h3.ext e) rfl
theorem wk_enumT {K : PySem.W.Frag} {q : Addr} {xs : List V} {ds : List PyData} (h : Rd H q (.tup xs)) (a : AtAll P w H xs ds) : Wk P w (Itu K q xs) H (numFrom 0 ds) := by
  have sq : ∀ H', Ext H H' → SqT K H' q xs := fun H' e => .inl (h.elim (fun h => .inl (e _ _ h True.intro)) fun ⟨o, h⟩ => .inr ⟨o, e _ _ h True.intro⟩)
  refine ⟨fun i H' hi e => ?_, fun i H' x H2 d e y hd => ?_, fun H' e => ⟨sq H' e, by rw [numFrom_len, a.length]⟩⟩
  · rw [numFrom_len, ← a.length] at hi
    exact ⟨sq H' e, hi⟩
  · obtain ⟨T, z, rfl, hn, rfl, y⟩ := y
    obtain ⟨x', h1, rfl⟩ := numFrom_get _ _ _ _ hd
    obtain ⟨v, h2, h3⟩ := a.get h1
    rw [y] at h2
    cases Option.some.inj h2
    refine ⟨same_new hn, ?_⟩
    rw [Int.zero_add]
    exact pair_new hn (.int _) (h3.ext e) rfl
theorem id_enum {elts : List Expr} {kk : Nat} {tpos p : Pos} (hm : X.mg "enumerate" = none) (ha : ED B X a fa) (hg : Gl X "enumerate" := by rfl) (hs : starEach [a] X.env = [(false, eval a X.env)] := by rfl) : ID B X (.Tuple elts kk tpos) (.Call (.Name "enumerate" p) [a] [] pos) (iEnum fa) := by
  refine id_of (pi_orR (pi_enum hg hm (pa_cons ha.pe pa_nil (by rw [hs]; rfl)) hs) (pi_enumT hg hm (pa_cons ha.pe pa_nil (by rw [hs]; rfl)) hs)) fun σ H ρ ds ρ' r hf => ?_
  obtain ⟨⟨d, ρ1⟩, h1, h2⟩ := bind2 hf
  obtain ⟨ds', h3, h4⟩ := bind2 h2
  obtain ⟨rfl, rfl⟩ := pair2 h4
  cases d with
  | list es =>
    cases Option.some.inj h3
    refine .inl ⟨ρ, _, ρ1, r, h1, fun v H1 p a => ?_⟩
    obtain ⟨q, o, xs, rfl, h5, h6⟩ := a.lst_inv
    exact ⟨q, xs, rfl, .inl (.inr ⟨o, h5⟩), p, wk_enum h5 h6⟩
  | tuple es =>
    cases Option.some.inj h3
    refine .inr ⟨ρ, _, ρ1, r, h1, fun v H1 p a => ?_⟩
    obtain ⟨q, xs, rfl, h5, h6⟩ := a.tup_inv
    exact ⟨q, xs, rfl, .inl h5, p, wk_enumT h5 h6⟩
  | _ => cases h3
/-! ### d.items(), d frozen -/
/-- the pairs of a frozen dict, whatever its keys -/
def FzD (P : Program) (w : World) (d : Addr) (u : HO) (prs : List (V × V)) : Prop := (∃ kvs, u = .dK kvs ∧ prs = kvs.map fun p => (kV p.1, p.2)) ∨ ∃ es, u = ndO P w d es ∧ prs = es.map fun e => (V.ref e.2.1, e.2.2)
theorem fzd_raw {d : Addr} {o : Obj} {u : HO} {prs : List (V × V)} (I : Inv X pins σ H s) (f : FzD X.prog X.w d u prs) (h : H d = some (.frz o u)) :
    ∃ es ep, o.data = .dict es ep ∧ s.heap.DictRaw d es ep ∧ es.size = prs.length ∧ (d == sysModules) = false ∧ ∀ (i : Nat) (p : V × V), prs[i]? = some p → ∃ en : DictEntry, es[i]? = some en ∧ RelV p.1 en.key ∧ RelV p.2 en.val := by
  rcases f with ⟨kvs, rfl, rfl⟩ | ⟨es0, rfl, rfl⟩
  · obtain ⟨hs, hg, hx, es, ep, vs, hdt, hsz, kv, hm⟩ := I.frzK h
    obtain ⟨o', es', hg', hx', hdt', hk', hp', hn'⟩ := hm
    rw [hg] at hg'
    cases hg'
    rw [hdt] at hdt'
    cases hdt'
    refine ⟨es, ep, hdt, ⟨o, hg, hx, hdt⟩, by rw [List.length_map]; exact hsz, hs, fun i p hp => ?_⟩
    rw [List.getElem?_map] at hp
    obtain ⟨⟨k, v⟩, h1, rfl⟩ := Option.map_eq_some_iff.mp hp
    obtain ⟨u, hu, ru⟩ := kv_get kv h1
    have hi : i < es.size := by
      rw [hsz]
      exact (List.getElem?_eq_some_iff.mp h1).1
    have z := hp'.get? (e := es[i]) (by simp [hi]) hu
    refine ⟨es[i], by simp [hi], relV_key (show keyIs k es[i].key = true from z.1), ?_⟩
    rw [z.2]
    exact ru
  · obtain ⟨hg, ⟨us, r, o', des, ep, h1, h2, h3, h4, h5, h6, h7, h8⟩, _⟩ := I.hok _ _ h
    rw [hg] at h1
    cases h1
    have hsz : des.size = us.length := by
      have := congrArg List.length h4
      rw [List.length_map, Array.length_toList] at this
      exact this
    refine ⟨des, ep, h3, ⟨o, hg, h2, h3⟩, by rw [List.length_map, hsz]; exact (Paired.length r).symm, h6, fun i p hp => ?_⟩
    rw [List.getElem?_map] at hp
    obtain ⟨e, h9, rfl⟩ := Option.map_eq_some_iff.mp hp
    have go : ∀ {es : NEs} {us : List (NestedKey × Addr × Value)} {i : Nat} {e : NestedKey × Addr × V}, Paired NRel es us → es[i]? = some e → ∃ y, us[i]? = some y ∧ NRel e y := by
      intro es us i e r
      induction r generalizing i with
      | nil => intro z; simp at z
      | cons r1 r2 ih =>
        intro z
        cases i with
        | zero =>
          cases Option.some.inj z
          exact ⟨_, rfl, r1⟩
        | succ i => exact ih z
    obtain ⟨y, g1, g2, g3, g4⟩ := go r h9
    have g5 : des.toList[i]? = some (entryOfKey (nestedKind X.prog X.w) y) := by
      rw [h4, List.getElem?_map, g1]
      rfl
    refine ⟨_, by rw [← Array.getElem?_toList]; exact g5, ?_, g4⟩
    show Value.ref y.2.1 = Value.ref e.2.1
    rw [g3]
def ItI (d : Addr) (o : Obj) (u : HO) (prs : List (V × V)) : It :=
  ⟨fun i H => H d = some (.frz o u) ∧ i < prs.length, fun i H v H' => ∃ T p, prs[i]? = some p ∧ v = .ref T ∧ H T = none ∧ H' = upd H T (.tup [p.1, p.2]), fun i H => H d = some (.frz o u) ∧ prs.length ≤ i⟩
theorem turn_itemsA {K : PySem.W.Frag} {elts : List Expr} {kk : Nat} {tpos : Pos} {d : Addr} {o : Obj} {u : HO} {prs : List (V × V)} {es : Array DictEntry} {ep : Nat} (it : Addr) (f : FzD P w d u prs) (hod : o.data = .dict es ep) (hsz : es.size = prs.length) :
    Turn P w K (.Tuple elts kk tpos) (ItI d o u prs) [it] it (fun i h => ∃ ok ov, IsItemIter h it d i es.size ep ok ov) where
  mem := List.mem_singleton.mpr rfl
  obj := fun i h ⟨ok, ov, e⟩ b hb => by
    rw [List.mem_singleton.mp hb]
    exact ⟨_, e, fun v z => nomatch z⟩
  keep := fun i h h' ⟨ok, ov, e⟩ k => ⟨ok, ov, k it (List.mem_singleton.mpr rfl) _ e⟩
  item := by
    intro X hP hw hK hc i pins s σ H E I hf ⟨ok, ov, he⟩ ⟨hd, hi⟩
    subst hP hw hK
    obtain ⟨es', ep', g1, g2, g3, g4, g5⟩ := fzd_raw I f hd
    obtain ⟨rfl, rfl⟩ := dict_ep hod g1
    obtain ⟨en, g6, g7, g8⟩ := g5 i _ (List.getElem?_eq_getElem hi)
    have hlt : it < s.heap.objs.size := Heap.lt_size he
    have hie : i < es'.size := by rw [g3]; exact hi
    have een : es'[i] = en := by
      rw [Array.getElem?_eq_getElem hie] at g6
      exact Option.some.inj g6
    refine wpAny_pyNext_items_item_raw he g2 hie fun h' ho hT hz hk => ⟨_, rfl, wpAny_letOwnedTupleGo_items (s := { s with heap := h' }) ho fun h'' he' sb => ?_⟩
    rw [een] at hT he'
    have hT2 : h''.get? s.heap.objs.size = some { cls := .type "tuple", data := .seq #[en.key, en.val] } := (sb.2 _ (Nat.ne_of_gt hlt)).trans hT
    have J : Inv X pins σ (upd H s.heap.objs.size (.tup [prs[i].1, prs[i].2])) { s with heap := h'' } := by
      refine I.turnedNew (t' := s.toks) (ch := [it]) (fun b ob hb e => ?_) hf (Nat.le_refl _) ⟨by show 2 ≤ sizeLine; decide, [en.key, en.val], .cons g7 (.cons g8 .nil), ⟨_, hT2, rfl, _, rfl⟩⟩
      rw [List.mem_singleton] at hb
      exact (sb.2 b hb).trans (hk b ob hb e)
    refine ⟨.ref s.heap.objs.size, _, J, rfl, ⟨_, prs[i], List.getElem?_eq_getElem hi, rfl, I.hok.fresh (Nat.le_refl _), rfl⟩, ⟨en.key, en.val, he'⟩, fun b hb => ?_⟩
    rw [List.mem_singleton.mp hb, upd_ne (Nat.ne_of_lt hlt)]
    exact (hf it (List.mem_singleton.mpr rfl)).1
  done := by
    intro X hP hw hK hc i pins s σ H E I hf ⟨ok, ov, he⟩ ⟨hd, hi⟩
    subst hP hw hK
    obtain ⟨es', ep', g1, g2, g3, g4, g5⟩ := fzd_raw I f hd
    obtain ⟨rfl, rfl⟩ := dict_ep hod g1
    obtain ⟨f0, f1, f2, f3, f4, f5⟩ := hf it (List.mem_singleton.mpr rfl)
    exact wpAny_pyNext_items_end_raw (I.ok.hd hc) he g2 (by rw [g3]; exact hi) fun h' eb => ⟨rfl, I.turned (t' := s.toks) (fun b ob hb e => eb b ob hb e) f0 f1 f3 f4 f5⟩
  self := fun A i s Q E ⟨_, _, e⟩ h => wpAny_pyIter_itemiter e h
theorem pi_itemsA {e : Expr} {td : TE} {apos cpos tpos : Pos} {elts : List Expr} {kk : Nat} (he : PE X e td) (hbase : attributeBase e "items" X.env (eval e X.env) = eval e X.env) (hline : (apos.endLine == cpos.line) = true) :
    PI X (.Tuple elts kk tpos) (.Call (.Attribute e "items" apos) [] [] cpos) (fun σ H R => td σ H fun x H1 => ∃ d o u prs, x = .ref d ∧ H1 d = some (.frz o u) ∧ FzD X.prog X.w d u prs ∧ R (ItI d o u prs) H1) := by
  refine ⟨fun pins s σ H R I h => ?_⟩
  refine wpAny_Call_method (T := "dict") (id := "dict.items") hbase rfl hline F.plainAttrs_dict F.slot_dict_items F.type_dict_items (thn (he.run pins s σ H _ I h) fun v s1 ⟨x, H1, I1, rx, d, o, u, prs, ex, hd, f, q⟩ => ?_)
  subst ex
  obtain rfl : v = Value.ref d := rx
  obtain ⟨es, ep, g1, g2, g3, g4, _⟩ := fzd_raw I1 f hd
  refine ⟨g2.typeIs, fun b eb => ?_, ?_⟩
  · cases eb
    obtain ⟨ob, e1, e2, _⟩ := g2
    exact ⟨ob, e1, e2.2.1⟩
  have I2 : Inv X pins σ H1 { s1 with heap := s1.heap.push { cls := .type "dict_items", data := .fields #[.ref d] } } := I1.kept (t' := s1.toks) fun b ob q => Heap.get?_push_of_some _ q
  have fin : wpAny (model X.prog X.w) X.A (pyIter (.ref s1.heap.objs.size)) (PIE X pins σ (.Tuple elts kk tpos) R) X.xe { s1 with heap := s1.heap.push { cls := .type "dict_items", data := .fields #[.ref d] } } :=
    wpAny_pyIter_items_raw (d := d) ⟨_, Heap.get?_push_size _ rfl, rfl, rfl⟩ (g2.at fun o e => Heap.get?_push_of_some _ e) (pi_one (tk := s1.toks) I2 _ (turn_itemsA _ f g1 g3) ⟨.none, .none, Heap.get?_push_size _ rfl⟩ q)
  exact method_meetsIn F.slot_dict_items F.entry_dict_items rfl (PySem.evalArgs_none ⟨rfl, g2.typeIs, F.args_dict_items_1 _, _, meets_dict_items_raw (prog := X.prog) (w := X.w) d g4, ⟨es, ep, g2⟩, fin⟩)
theorem atKs_get : ∀ {kvs : List (Key × V)} {ds : List (PyData × PyData)} {i : Nat} {z : PyData × PyData}, AtKs P w H kvs ds → ds[i]? = some z → ∃ p, kvs[i]? = some p ∧ At P w H (kV p.1) z.1 ∧ At P w H p.2 z.2
  | _, _, i, z, .nil, h => by simp at h
  | _, _, 0, z, .cons a r, h => by
    cases Option.some.inj h
    exact ⟨_, rfl, .str _, a⟩
  | _, _, i + 1, z, .cons _ r, h => atKs_get (i := i) r h
theorem atEs_get : ∀ {es : NEs} {ds : List (PyData × PyData)} {i : Nat} {z : PyData × PyData}, AtEs P w H es ds → ds[i]? = some z → ∃ p, es[i]? = some p ∧ At P w H (.ref p.2.1) z.1 ∧ At P w H p.2.2 z.2
  | _, _, i, z, .nil, h => by simp at h
  | _, _, 0, z, .cons k a r, h => by
    cases Option.some.inj h
    exact ⟨_, rfl, k, a⟩
  | _, _, i + 1, z, .cons _ _ r, h => atEs_get (i := i) r h
theorem AtEs.length : ∀ {es : NEs} {ds : List (PyData × PyData)}, AtEs P w H es ds → es.length = ds.length
  | _, _, .nil => rfl
  | _, _, .cons _ _ r => by rw [List.length_cons, List.length_cons, AtEs.length r]
theorem At.fzd {v : V} {kvs : List (PyData × PyData)} (a : At P w H v (.dict kvs)) : ∃ d o u prs, v = .ref d ∧ H d = some (.frz o u) ∧ FzD P w d u prs ∧ prs.length = kvs.length ∧ ∀ (i : Nat) (z : PyData × PyData), kvs[i]? = some z → ∃ p : V × V, prs[i]? = some p ∧ At P w H p.1 z.1 ∧ At P w H p.2 z.2 := by
  cases a with
  | dK h r =>
    refine ⟨_, _, _, _, rfl, h, .inl ⟨_, rfl, rfl⟩, by rw [List.length_map, r.length], fun i z hz => ?_⟩
    obtain ⟨p, h1, h2, h3⟩ := atKs_get r hz
    exact ⟨(kV p.1, p.2), by rw [List.getElem?_map, h1]; rfl, h2, h3⟩
  | nd h r =>
    refine ⟨_, _, _, _, rfl, h, .inr ⟨_, rfl, rfl⟩, by rw [List.length_map, r.length], fun i z hz => ?_⟩
    obtain ⟨p, h1, h2, h3⟩ := atEs_get r hz
    exact ⟨(.ref p.2.1, p.2.2), by rw [List.getElem?_map, h1]; rfl, h2, h3⟩
theorem id_items {elts : List Expr} {kk : Nat} {tpos apos cpos : Pos} (ha : ED B X a fa) (hbase : attributeBase a "items" X.env (eval a X.env) = eval a X.env := by rfl) (hline : (apos.endLine == cpos.line) = true := by rfl) :
    ID B X (.Tuple elts kk tpos) (.Call (.Attribute a "items" apos) [] [] cpos) (iItems fa) := by
  refine id_of (pi_itemsA ha.pe hbase hline) fun σ H ρ ds ρ' r hf => ?_
  obtain ⟨⟨d, ρ1⟩, h1, h2⟩ := bind2 hf
  cases d with
  | dict kvs =>
    obtain ⟨hp, h3⟩ := if_inv h2
    obtain ⟨rfl, rfl⟩ := pair2 h3
    refine ⟨ρ, _, ρ1, r, h1, fun v H1 p a => ?_⟩
    obtain ⟨d, o, u, prs, rfl, g1, g2, g3, g4⟩ := a.fzd
    refine ⟨d, o, u, prs, rfl, g1, g2, p, ⟨fun i H2 hi e => ⟨e _ _ g1 True.intro, ?_⟩, fun i H2 x H3 z e y hz => ?_, fun H2 e => ⟨e _ _ g1 True.intro, ?_⟩⟩⟩
    · rw [g3]
      rw [List.length_map] at hi
      exact hi
    · obtain ⟨T, pp, y1, rfl, hn, rfl⟩ := y
      rw [List.getElem?_map] at hz
      obtain ⟨kv, z1, rfl⟩ := Option.map_eq_some_iff.mp hz
      obtain ⟨p2, q1, q2, q3⟩ := g4 i kv z1
      rw [y1] at q1
      cases Option.some.inj q1
      have hq := List.all_eq_true.mp hp kv (List.mem_of_getElem? z1)
      exact ⟨same_new hn, pair_new hn (q2.ext e) (q3.ext e) (by simpa using hq)⟩
    · rw [g3, List.length_map]
      exact Nat.le_refl _
  | _ => cases h2
end
end Dl
end
section
set_option Elab.async false
set_option linter.all false
set_option autoImplicit false
set_option maxRecDepth 100000
set_option maxHeartbeats 2000000
/-! Rules8: targets, comprehensions. -/
namespace Dl
open PySem PySem.Spec PyProof.Rows L2
def putV : List Nat → List V → L2.St → L2.St
  | i :: is, v :: vs, σ => putV is vs (σ.set i (some v))
  | _, _, σ => σ
section
variable {P : Program} {w : World} {B : Base} {H H' H1 H2 : Hp} {σ : L2.St} {ρ ρ' ρ1 ρ2 : DEnv} {X : Cx} {e a b c tg : Expr} {f fa fb fc : M PyData} {t : M Bool} {g : M (List PyData)} {pins : List (Addr × Obj)} {s : Shared} {pos p : Pos} {ix : List Nat} {af : Asg}
/-! ### targets -/
structure GD (X : Cx) (tg : Expr) (ix : List Nat) (f : Asg) : Prop where
  len : ∀ d ds, f d = some ds → ds.length = ix.length
  pg : PG X tg (fun v σ H Q => ∃ d ds, At X.prog X.w H v d ∧ f d = some ds ∧ ∀ vs, AtAll X.prog X.w H vs ds → Q (putV ix vs σ) H)
structure GDs (X : Cx) (ts : List Expr) (ix : List Nat) (fs : List Asg) : Prop where
  len : ∀ ds es, aTups fs ds = some es → es.length = ix.length ∧ ds.length = ts.length
  pgs : PGs X ts (fun vs σ H Q => ∃ ds es, AtAll X.prog X.w H vs ds ∧ aTups fs ds = some es ∧ ∀ us, AtAll X.prog X.w H us es → Q (putV ix us σ) H)
theorem gd_name (i : Nat) {x : Str} (nd : X.N.Nodup) (hi : X.N[i]? = some x := by rfl) (hx : Loc X.env.scope x := by first | exact Or.inl rfl | exact Or.inr rfl) (hf : X.fn x = true ∨ X.env.scope.names.lookup x = some .local := by first | exact .inl rfl | exact .inr rfl) : GD X (.Name x pos) [i] aName := by
  refine ⟨fun d ds h => ?_, ⟨fun pins s σ H v u Q I r h => ?_⟩⟩
  · cases Option.some.inj h
    rfl
  · obtain ⟨d, ds, a, h1, k⟩ := h
    cases Option.some.inj h1
    exact (pg_name (pos := pos) nd hi hx hf).run pins s σ H v u Q I r (k [v] (.cons a .nil))
theorem gds_nil : GDs X [] [] [] := by
  refine ⟨fun ds es h => ?_, ⟨fun pins s σ H vs us Q I r h => ?_⟩⟩
  · cases ds with
    | nil =>
      cases Option.some.inj h
      exact ⟨rfl, rfl⟩
    | cons d ds => cases h
  · obtain ⟨ds, es, a, h1, k⟩ := h
    cases ds with
    | nil =>
      cases Option.some.inj h1
      cases a
      exact pgs_nil.run pins s σ H [] us Q I r ⟨rfl, k [] .nil⟩
    | cons d ds => cases h1
theorem putV_append : ∀ {is js : List Nat} {vs us : List V} {σ : L2.St}, vs.length = is.length → putV (is ++ js) (vs ++ us) σ = putV js us (putV is vs σ)
  | [], js, [], us, σ, _ => rfl
  | [], js, v :: vs, us, σ, h => by cases h
  | i :: is, js, [], us, σ, h => by cases h
  | i :: is, js, v :: vs, us, σ, h => putV_append (is := is) (Nat.succ.inj h)
theorem AtAll.split : ∀ {ds es : List PyData} {vs : List V}, AtAll P w H vs (ds ++ es) → ∃ v1 v2, vs = v1 ++ v2 ∧ AtAll P w H v1 ds ∧ AtAll P w H v2 es
  | [], es, vs, h => ⟨[], vs, rfl, .nil, h⟩
  | d :: ds, es, _, .cons a r => by
    obtain ⟨v1, v2, rfl, h1, h2⟩ := AtAll.split r
    exact ⟨_ :: v1, v2, rfl, .cons a h1, h2⟩
theorem gds_cons {e : Expr} {ts : List Expr} {i1 i2 : List Nat} {f : Asg} {fs : List Asg} (h : GD X e i1 f) (r : GDs X ts i2 fs) (hs : (assignEach (e :: ts) X.env).map (·.2) = assign e X.env :: (assignEach ts X.env).map (·.2) := by rfl) : GDs X (e :: ts) (i1 ++ i2) (f :: fs) := by
  have inv : ∀ {ds es : List PyData}, aTups (f :: fs) ds = some es → ∃ d dr xs ys, ds = d :: dr ∧ f d = some xs ∧ aTups fs dr = some ys ∧ es = xs ++ ys := by
    intro ds es h
    cases ds with
    | nil => cases h
    | cons d dr =>
      obtain ⟨xs, h1, h2⟩ := bind2 h
      obtain ⟨ys, h3, h4⟩ := bind2 h2
      exact ⟨d, dr, xs, ys, rfl, h1, h3, (Option.some.inj h4).symm⟩
  refine ⟨fun ds es hh => ?_, ⟨fun pins s σ H vs us Q I rv hh => ?_⟩⟩
  · obtain ⟨d, dr, xs, ys, rfl, h1, h2, rfl⟩ := inv hh
    obtain ⟨l1, l2⟩ := r.len _ _ h2
    rw [List.length_append, List.length_append, h.len _ _ h1, l1]
    exact ⟨rfl, by rw [List.length_cons, List.length_cons, l2]⟩
  · obtain ⟨ds, es, a, h0, k⟩ := hh
    obtain ⟨d, dr, xs, ys, rfl, h1, h2, rfl⟩ := inv h0
    cases a with
    | cons a1 a2 =>
      refine (pgs_cons h.pg r.pgs hs).run pins s σ H _ us Q I rv ⟨_, _, rfl, d, xs, a1, h1, fun v1 b1 => ⟨dr, ys, a2, h2, fun v2 b2 => ?_⟩⟩
      have z := k (v1 ++ v2) (b1.append b2)
      rw [putV_append (by rw [b1.length, h.len _ _ h1])] at z
      exact z
theorem gd_tup {es : List Expr} {k : Nat} {fs : List Asg} (h : GDs X es ix fs) (hc : X.calm = true := by rfl) (hn : (assignEach es X.env).length = es.length := by rfl) (hst : (assignEach es X.env).findIdx? (·.1) = none := by rfl) : GD X (.Tuple es k pos) ix (aTup fs) := by
  refine ⟨fun d ds hh => ?_, ⟨fun pins s σ H v u Q I r hh => ?_⟩⟩
  · cases d with
    | tuple xs => exact (h.len _ _ hh).1
    | _ => cases hh
  · obtain ⟨d, ds, a, h1, kk⟩ := hh
    cases d with
    | tuple xs =>
      obtain ⟨q, vs, rfl, h2, h3⟩ := a.tup_inv
      refine (pg_tup hc h.pgs hn hst).run pins s σ H _ u Q I r ⟨q, vs, rfl, .inl h2, ?_, xs, ds, h3, h1, kk⟩
      rw [h3.length, (h.len _ _ h1).2]
    | _ => cases h1
/-! ### environments under targets and wiping -/
theorem putAll_rep : ∀ {ix : List Nat} {vs : List V} {ds : List PyData} {σ : L2.St} {ρ : DEnv}, Rep P w B H σ ρ → AtAll P w H vs ds → Rep P w B H (putV ix vs σ) (putAll ix ds ρ)
  | [], _, _, σ, ρ, r, a => by
    cases a with
    | nil => exact r
    | cons _ _ => exact r
  | i :: ix, _, _, σ, ρ, r, .nil => r
  | i :: ix, _, _, σ, ρ, r, .cons a1 a2 => putAll_rep (ix := ix) (r.assign (s := .dat _) ⟨_, rfl, a1⟩ fun z => nomatch z) a2
theorem wipe_get : ∀ (vs : List Nat) (σ : L2.St) (j : Nat), (wipe σ vs)[j]? = if j ∈ vs then σ[j]?.map fun _ => none else σ[j]?
  | [], σ, j => by simp [wipe]
  | v :: vs, σ, j => by
    show ((wipe σ vs).set v none)[j]? = _
    by_cases e : j = v
    · subst e
      rw [if_pos List.mem_cons_self]
      by_cases hl : j < σ.length
      · rw [List.getElem?_set_self (by rw [wipe_length]; exact hl), List.getElem?_eq_getElem hl]
        rfl
      · rw [List.getElem?_eq_none (by rw [List.length_set, wipe_length]; omega), List.getElem?_eq_none (by omega)]
        rfl
    · rw [List.getElem?_set_ne (Ne.symm e), wipe_get vs σ j]
      by_cases h : j ∈ vs
      · rw [if_pos h, if_pos (List.mem_cons_of_mem _ h)]
      · rw [if_neg h, if_neg (by simp [e, h])]
theorem wipeE_get : ∀ (vs : List Nat) (ρ : DEnv) (j : Nat), (wipeE vs ρ).sl[j]? = if j ∈ vs then ρ.sl[j]?.map fun _ => Sl.un else ρ.sl[j]?
  | [], ρ, j => by simp [wipeE]
  | v :: vs, ρ, j => by
    show ((wipeE vs ρ).sl.set v .un)[j]? = _
    have hlen : (wipeE vs ρ).sl.length = ρ.sl.length := by
      induction vs with
      | nil => rfl
      | cons u us ih =>
        show ((wipeE us ρ).sl.set u .un).length = _
        rw [List.length_set, ih]
    by_cases e : j = v
    · subst e
      rw [if_pos List.mem_cons_self]
      by_cases hl : j < ρ.sl.length
      · rw [List.getElem?_set_self (by rw [hlen]; exact hl), List.getElem?_eq_getElem hl]
        rfl
      · rw [List.getElem?_eq_none (by rw [List.length_set, hlen]; omega), List.getElem?_eq_none (by omega)]
        rfl
    · rw [List.getElem?_set_ne (Ne.symm e), wipeE_get vs ρ j]
      by_cases h : j ∈ vs
      · rw [if_pos h, if_pos (List.mem_cons_of_mem _ h)]
      · rw [if_neg h, if_neg (by simp [e, h])]
theorem wipeE_len : ∀ (vs : List Nat) (ρ : DEnv), (wipeE vs ρ).sl.length = ρ.sl.length
  | [], ρ => rfl
  | v :: vs, ρ => by
    show ((wipeE vs ρ).sl.set v .un).length = _
    rw [List.length_set, wipeE_len vs ρ]
theorem wipeE_src : ∀ (vs : List Nat) (ρ : DEnv), (wipeE vs ρ).src = ρ.src
  | [], ρ => rfl
  | v :: vs, ρ => wipeE_src vs ρ
/-- Rep depends on the slots pointwise -/
theorem Rep.slots {σ' : L2.St} (r : Rep P w B H σ ρ) (hs : ρ'.src = ρ.src) (hl : ρ'.sl.length = σ'.length) (h : ∀ (j : Nat) (s : Sl), ρ'.sl[j]? = some s → SlOk P w B H σ'[j]? s ∧ (s.own = true → ρ.sl[j]? = some s ∧ σ'[j]? = σ[j]?)) : Rep P w B H σ' ρ' := by
  refine ⟨by rw [hs]; exact r.hp, hl, fun j s hj => (h j s hj).1, fun i j s t b h1 h2 h3 h4 h5 h6 => ?_, fun b ⟨j, s, h1, h2, h3⟩ => ?_⟩
  · obtain ⟨a1, a2⟩ := (h i s h1).2 h2
    obtain ⟨b1, b2⟩ := (h j t h3).2 h4
    exact r.inj i j s t b a1 h2 b1 h4 (by rw [← a2]; exact h5) (by rw [← b2]; exact h6)
  · obtain ⟨a1, a2⟩ := (h j s h1).2 h2
    exact r.new b ⟨j, s, a1, h2, by rw [← a2]; exact h3⟩
theorem own_slots {σ' : L2.St} (h : ∀ (j : Nat) (s : Sl), ρ'.sl[j]? = some s → s.own = true → ρ.sl[j]? = some s ∧ σ'[j]? = σ[j]?) {b : Addr} (o : Own σ' ρ' b) : Own σ ρ b := by
  obtain ⟨j, s, h1, h2, h3⟩ := o
  obtain ⟨a1, a2⟩ := h j s h1 h2
  exact ⟨j, s, a1, h2, by rw [← a2]; exact h3⟩
theorem wiped_slot {vs : List Nat} {j : Nat} {s : Sl} (h : (wipeE vs ρ).sl[j]? = some s) : (j ∈ vs ∧ s = .un) ∨ (j ∉ vs ∧ ρ.sl[j]? = some s) := by
  rw [wipeE_get] at h
  by_cases e : j ∈ vs
  · rw [if_pos e] at h
    obtain ⟨_, _, rfl⟩ := Option.map_eq_some_iff.mp h
    exact .inl ⟨e, rfl⟩
  · rw [if_neg e] at h
    exact .inr ⟨e, h⟩
theorem Rep.wiped {vs : List Nat} (r : Rep P w B H σ ρ) : Rep P w B H (wipe σ vs) (wipeE vs ρ) := by
  refine r.slots (wipeE_src _ _) (by rw [wipeE_len, wipe_length]; exact r.len) fun j s h => ?_
  rcases wiped_slot h with ⟨h1, rfl⟩ | ⟨h1, h2⟩
  · exact ⟨True.intro, fun z => nomatch z⟩
  · rw [wipe_get, if_neg h1]
    exact ⟨r.at_ j s h2, fun _ => ⟨h2, rfl⟩⟩
theorem own_wiped {vs : List Nat} {b : Addr} (o : Own (wipe σ vs) (wipeE vs ρ) b) : Own σ ρ b := own_slots (fun j s h hs => by
  rcases wiped_slot h with ⟨h1, rfl⟩ | ⟨h1, h2⟩
  · cases hs
  · rw [wipe_get, if_neg h1]
    exact ⟨h2, rfl⟩) o
theorem putAll_sl : ∀ {ix : List Nat} {ds : List PyData} {ρ : DEnv} {j : Nat} {s : Sl}, (putAll ix ds ρ).sl[j]? = some s → (j ∈ ix ∧ ∃ d, s = .dat d) ∨ ρ.sl[j]? = some s
  | [], ds, ρ, j, s, h => by
    cases ds <;> exact .inr h
  | i :: ix, [], ρ, j, s, h => .inr h
  | i :: ix, d :: ds, ρ, j, s, h => by
    rcases putAll_sl (ix := ix) (ds := ds) (ρ := ρ.put i (.dat d)) h with ⟨h1, h2⟩ | h1
    · exact .inl ⟨List.mem_cons_of_mem _ h1, h2⟩
    · rcases put_get h1 with ⟨e1, e2⟩ | ⟨e1, e2⟩
      · exact .inl ⟨by rw [e1]; exact List.mem_cons_self, d, e2⟩
      · exact .inr e2
theorem putV_get : ∀ {ix : List Nat} {vs : List V} {σ : L2.St} {j : Nat}, j ∉ ix → (putV ix vs σ)[j]? = σ[j]?
  | [], vs, σ, j, h => by cases vs <;> rfl
  | i :: ix, [], σ, j, h => rfl
  | i :: ix, v :: vs, σ, j, h => by
    show (putV ix vs (σ.set i (some v)))[j]? = _
    rw [putV_get (fun z => h (List.mem_cons_of_mem _ z)), List.getElem?_set_ne (fun z => h (by rw [z]; exact List.mem_cons_self))]
theorem putV_len : ∀ {ix : List Nat} {vs : List V} {σ : L2.St}, (putV ix vs σ).length = σ.length
  | [], vs, σ => by cases vs <;> rfl
  | i :: ix, [], σ => rfl
  | i :: ix, v :: vs, σ => by
    show (putV ix vs (σ.set i (some v))).length = _
    rw [putV_len, List.length_set]
theorem wipe_putV {vs : List Nat} {us : List V} (h : ∀ i ∈ ix, i ∈ vs) : wipe (putV ix us (wipe σ vs)) vs = wipe σ vs := by
  refine List.ext_getElem? fun j => ?_
  rw [wipe_get, wipe_get]
  by_cases e : j ∈ vs
  · rw [if_pos e, if_pos e]
    by_cases hl : j < σ.length
    · rw [List.getElem?_eq_getElem (by rw [putV_len, wipe_length]; exact hl), List.getElem?_eq_getElem hl] <;> try simp
    · rw [List.getElem?_eq_none (by rw [putV_len, wipe_length]; omega), List.getElem?_eq_none (by omega)] <;> try simp
  · rw [if_neg e, if_neg e, putV_get (fun z => e (h _ z)), wipe_get, if_neg e]
theorem keep_get : ∀ (vs : List Nat) (ρ ρ' : DEnv) (j : Nat), (keepSlots vs ρ ρ').sl[j]? = if j ∈ vs then ρ'.sl[j]?.map fun _ => ρ.sl.getD j .un else ρ'.sl[j]?
  | [], ρ, ρ', j => by simp [keepSlots]
  | v :: vs, ρ, ρ', j => by
    show ((keepSlots vs ρ ρ').sl.set v (ρ.sl.getD v .un))[j]? = _
    have hlen : (keepSlots vs ρ ρ').sl.length = ρ'.sl.length := by
      induction vs with
      | nil => rfl
      | cons u us ih =>
        show ((keepSlots us ρ ρ').sl.set u _).length = _
        rw [List.length_set, ih]
    by_cases e : j = v
    · subst e
      rw [if_pos List.mem_cons_self]
      by_cases hl : j < ρ'.sl.length
      · rw [List.getElem?_set_self (by rw [hlen]; exact hl), List.getElem?_eq_getElem hl]
        rfl
      · rw [List.getElem?_eq_none (by rw [List.length_set, hlen]; omega), List.getElem?_eq_none (by omega)]
        rfl
    · rw [List.getElem?_set_ne (Ne.symm e), keep_get vs ρ ρ' j]
      by_cases h : j ∈ vs
      · rw [if_pos h, if_pos (List.mem_cons_of_mem _ h)]
      · rw [if_neg h, if_neg (by simp [e, h])]
theorem keep_len : ∀ (vs : List Nat) (ρ ρ' : DEnv), (keepSlots vs ρ ρ').sl.length = ρ'.sl.length
  | [], ρ, ρ' => rfl
  | v :: vs, ρ, ρ' => by
    show ((keepSlots vs ρ ρ').sl.set v _).length = _
    rw [List.length_set, keep_len vs]
/-! ### a turn of a comprehension's block -/
theorem own_put {vs : List Nat} {us : List V} {xs : List PyData} {b : Addr} (hix : ∀ i ∈ ix, i ∈ vs) (o : Own (putV ix us (wipe σ vs)) (putAll ix xs (wipeE vs ρ)) b) : Own (wipe σ vs) (wipeE vs ρ) b := own_slots (fun j s h hs => by
  rcases putAll_sl h with ⟨h1, d, rfl⟩ | h1
  · cases hs
  · refine ⟨h1, putV_get fun z => ?_⟩
    rcases wiped_slot h1 with ⟨h2, rfl⟩ | ⟨h2, _⟩
    · cases hs
    · exact h2 (hix _ z)) o
theorem turn_post {vs : List Nat} {us : List V} {xs : List PyData} {H4 : Hp} {ρ0 ρi ρc : DEnv} (hix : ∀ i ∈ ix, i ∈ vs) (p : Post P w B (wipe σ vs) ρ0 (wipeE vs ρi) H1 H) (e : Same H H') (q : Post P w B (putV ix us (wipe σ vs)) (putAll ix xs (wipeE vs ρi)) ρc H' H4) :
    Post P w B (wipe σ vs) ρ0 (wipeE vs ρc) H1 H4 := by
  have hw : wipe (putV ix us (wipe σ vs)) vs = wipe σ vs := wipe_putV hix
  refine ⟨?_, fun b o hb nt c => q.fr b o (e b o (p.fr b o hb nt c)) nt (c.imp id fun ⟨n1, n2⟩ => ⟨fun z => n1 (p.own b (own_put hix z)), n2⟩), fun b o => p.own b (own_put hix (q.own b ?_)), fun b z => p.alive b (e.free (q.alive b z))⟩
  · have z := q.rep.wiped (vs := vs)
    rw [hw] at z
    exact z
  · rw [← hw] at o
    exact own_wiped o
theorem ownFree_get {vs : List Nat} (h : ownFree vs ρ = true) {j : Nat} (hj : j ∈ vs) : ρ.sl.getD j .un = .un ∨ ∃ d, ρ.sl[j]? = some (.dat d) ∧ ρ.sl.getD j .un = .dat d := by
  have z := List.all_eq_true.mp h j hj
  rw [List.getD_eq_getElem?_getD]
  cases e : ρ.sl[j]? with
  | none => exact .inl rfl
  | some s =>
    rw [e] at z
    cases s with
    | un => exact .inl rfl
    | dat d => exact .inr ⟨d, rfl, rfl⟩
    | _ => cases z
theorem kept_slot {vs : List Nat} {j : Nat} {s : Sl} (h : (keepSlots vs ρ ρ').sl[j]? = some s) : (j ∈ vs ∧ s = ρ.sl.getD j .un) ∨ (j ∉ vs ∧ ρ'.sl[j]? = some s) := by
  rw [keep_get] at h
  by_cases e : j ∈ vs
  · rw [if_pos e] at h
    obtain ⟨_, _, rfl⟩ := Option.map_eq_some_iff.mp h
    exact .inl ⟨e, rfl⟩
  · rw [if_neg e] at h
    exact .inr ⟨e, h⟩
theorem end_post {vs : List Nat} {ρi : DEnv} (hf : ownFree vs ρ1 = true) (r : Rep P w B H1 σ ρ1) (p : Post P w B (wipe σ vs) (wipeE vs ρ1) (wipeE vs ρi) H1 H) : Post P w B σ ρ1 (keepSlots vs ρ1 ρi) H1 H := by
  have wi : ∀ {j : Nat} {s : Sl}, j ∉ vs → ρi.sl[j]? = some s → (wipeE vs ρi).sl[j]? = some s := fun {j s} n h => by
    rw [wipeE_get, if_neg n]
    exact h
  have key : ∀ (j : Nat) (s : Sl), (keepSlots vs ρ1 ρi).sl[j]? = some s → SlOk P w B H σ[j]? s ∧ (s.own = true → (wipeE vs ρi).sl[j]? = some s ∧ σ[j]? = (wipe σ vs)[j]?) := fun j s h => by
    rcases kept_slot h with ⟨h1, rfl⟩ | ⟨h1, h2⟩
    · rcases ownFree_get hf h1 with e | ⟨d, e1, e2⟩
      · rw [e]
        exact ⟨True.intro, fun z => nomatch z⟩
      · rw [e2]
        obtain ⟨v, a1, a2⟩ := r.at_ j _ e1
        exact ⟨⟨v, a1, a2.ext p.ext⟩, fun z => nomatch z⟩
    · have z := p.rep.at_ j s (wi h1 h2)
      rw [wipe_get, if_neg h1] at z
      refine ⟨z, fun _ => ⟨wi h1 h2, ?_⟩⟩
      rw [wipe_get, if_neg h1]
  refine ⟨p.rep.slots ?_ ?_ key, fun b o hb nt c => p.fr b o hb nt (c.imp id fun ⟨n1, n2⟩ => ⟨fun z => n1 (own_wiped z), n2⟩), fun b o => own_wiped (p.own b (own_slots (fun j s h hs => (key j s h).2 hs) o)), p.alive⟩
  · rw [wipeE_src]
    rfl
  · rw [keep_len, ← wipeE_len vs ρi, p.rep.len, wipe_length]
/-- tests of a comprehension -/
structure TDs (B : Base) (X : Cx) (ifs : List Expr) (t : M Bool) : Prop where
  pts : PTs X ifs (tTD B X t)
theorem tds_nil : TDs B X [] tYes := ⟨⟨fun pins s σ H Q I ⟨ρ, b, ρ', r, hf, k⟩ => by
  obtain ⟨rfl, rfl⟩ := pair2 hf
  exact pts_nil.run pins s σ H Q I (k H (.refl r))⟩⟩
theorem tds_one (h : TD B X c t) : TDs B X [c] t := ⟨pts_one h.pt⟩
abbrev Blk (X : Cx) (scope : Scope) (s : Shared) (H : Hp) (C : Addr) (cl : List (Str × Addr)) (fp : List Addr) : Cx := X.blk s H scope (compEnvC scope cl C X.env) fp
theorem lc_read {it : M (List PyData)} {vs : List Nat} {outD : List PyData} {Q : VK} (hix : ∀ i ∈ ix, i ∈ vs) (r : Rep X.prog X.w B H σ ρ) (h : lComp it ix af vs t fa ρ = some (outD, ρ'))
    (k : ∀ D xs H', H D = none → H' D = some (.lst xs) → AtAll X.prog X.w H' xs outD → Post X.prog X.w B σ ρ ρ' H H' → Q (.ref D) H') :
    tLc (tID B X it) (fun v σ H Q => ∃ d ds, At X.prog X.w H v d ∧ af d = some ds ∧ ∀ vs, AtAll X.prog X.w H vs ds → Q (putV ix vs σ) H) (tTD B X t) (tED B X fa) vs σ H Q := by
  obtain ⟨⟨ds, ρ1⟩, h1, h2⟩ := bind2 h
  obtain ⟨hfree, h3⟩ := if_inv h2
  rw [Bool.and_eq_true] at hfree
  obtain ⟨hfree, hsmall⟩ := hfree
  obtain ⟨⟨out, ρn⟩, h4, h5⟩ := bind2 h3
  obtain ⟨rfl, rfl⟩ := pair2 h5
  refine ⟨ρ, ds, ρ1, r, h1, fun J H1 p1 wk D hD => ?_⟩
  have nD := p1.rep.fresh hD
  have hD0 : H D = none := p1.alive D hD
  refine ⟨fun i m HH => m = ds.length - i ∧ i ≤ ds.length ∧ ∃ ρi acc accD, Post X.prog X.w B (wipe σ vs) (wipeE vs ρ1) (wipeE vs ρi) H1 HH ∧ HH D = some (.lst acc) ∧ AtAll X.prog X.w HH acc accD ∧ accD.length ≤ i ∧ lcGo ix af vs t fa (ds.drop i) accD ρi = some (out, ρn),
    ⟨ds.length, by simp, Nat.zero_le _, ρ1, [], [], .same p1.rep.wiped (same_new hD), upd_same, .nil, Nat.le_refl _, h4⟩, ?_⟩
  rintro i m HH ⟨rfl, hi, ρi, acc, accD, pi, eD, aD, lD, go⟩
  by_cases hlt : i < ds.length
  · refine .inr ⟨wk.go i HH hlt pi.ext, fun H' => ∃ ρi acc accD, Post X.prog X.w B (wipe σ vs) (wipeE vs ρ1) (wipeE vs ρi) H1 H' ∧ H' D = some (.lst acc) ∧ AtAll X.prog X.w H' acc accD ∧ accD.length ≤ i + 1 ∧ lcGo ix af vs t fa (ds.drop (i + 1)) accD ρi = some (out, ρn), fun H' q => ⟨ds.length - (i + 1), by omega, rfl, hlt, q⟩, fun x Hx y => ?_⟩
    have hd : ds[i]? = some ds[i] := List.getElem?_eq_getElem hlt
    obtain ⟨sm, ax⟩ := wk.yld i HH x Hx _ pi.ext y hd
    rw [List.drop_eq_getElem_cons hlt] at go
    obtain ⟨ρa, g1, g2⟩ := bind2 go
    obtain ⟨xs, g3, g4⟩ := bind2 g1
    cases Option.some.inj g4
    obtain ⟨⟨bb, ρb⟩, g5, g6⟩ := bind2 g2
    refine ⟨_, xs, ax, g3, fun us au => ⟨wipe_putV hix, ?_⟩⟩
    have ra := putAll_rep (ix := ix) (pi.rep.same sm) au
    have nown : ∀ ρz Hz, Post X.prog X.w B (putV ix us (wipe σ vs)) (putAll ix xs (wipeE vs ρi)) ρz Hx Hz → Hz D = some (.lst acc) := fun ρz Hz q =>
      q.fr D _ (sm D _ eD) (.inr fun _ z => nomatch z) (.inr ⟨fun z => nD.2.2 (own_wiped (pi.own D (own_put hix z))), nD.2.1⟩)
    refine ⟨_, bb, ρb, ra, g5, fun H3 q3 => ?_⟩
    dsimp only at g6
    cases bb with
    | false =>
      rw [if_neg Bool.false_ne_true]
      rw [if_neg Bool.false_ne_true] at g6
      exact ⟨ρb, acc, accD, turn_post hix pi sm q3, nown _ _ q3, (aD.ext (.of sm)).ext q3.ext, by omega, g6⟩
    | true =>
      rw [if_pos rfl]
      rw [if_pos rfl] at g6
      obtain ⟨⟨yd, ρc⟩, g7, g8⟩ := bind2 g6
      refine ⟨ρb, yd, ρc, q3.rep, g7, fun yv H4 q4 ay => ?_⟩
      have q34 := q3.trans q4
      have eD4 := nown _ _ q34
      have hsz : acc.length < sizeLine := by
        have := small_lt hsmall
        have := aD.length
        dsimp only at *
        omega
      refine ⟨acc, eD4, hsz, ρc, acc ++ [yv], accD ++ [yd], ?_, upd_same, ?_, by rw [List.length_append, List.length_singleton]; omega, g8⟩
      · exact (turn_post hix pi sm q34).poke p1.rep.wiped hD eD4 (fun z => z) (fun _ z => nomatch z) (.inr fun _ z => nomatch z) upd_but' ⟨_, upd_same⟩
      · have ex := ext_but eD4 (fun z => z) (upd_but' (o := .lst (acc ++ [yv])))
        exact (((aD.ext (.of sm)).ext q34.ext).snoc ay).ext ex
  · have e : i = ds.length := by omega
    subst e
    rw [List.drop_length] at go
    obtain ⟨rfl, rfl⟩ := pair2 go
    exact .inl ⟨wk.stop HH pi.ext, k D acc HH hD0 eD aD (p1.trans (end_post hfree p1.rep pi))⟩
end
end Dl
end
section
set_option Elab.async false
set_option linter.all false
set_option autoImplicit false
set_option maxRecDepth 100000
set_option maxHeartbeats 2000000
/-! Rules9: comprehensions as expressions; what a name gets; statements. -/
namespace Dl
open PySem PySem.Spec PyProof.Rows L2
section
variable {P : Program} {w : World} {B : Base} {H H' H1 H2 : Hp} {σ σ' : L2.St} {ρ ρ' ρ1 ρ2 : DEnv} {X : Cx} {e a b c tg : Expr} {f fa fb fc : M PyData} {t : M Bool} {g : M (List PyData)} {pins : List (Addr × Obj)} {s : Shared} {pos p : Pos} {ix : List Nat} {af : Asg}
theorem el_comp {elt iter : Expr} {ifs : List Expr} {scope : Scope} {own : List (Str × Nat)} {it : M (List PyData)} (nd : X.N.Nodup) (hi : ID B X tg iter it) (hg : ∀ (s : Shared) (H : Hp) (C : Addr) (cl : List (Str × Addr)) (fp : List Addr), GD (Blk X scope s H C cl fp) tg ix af)
    (ht : ∀ (s : Shared) (H : Hp) (C : Addr) (cl : List (Str × Addr)) (fp : List Addr), TDs B (Blk X scope s H C cl fp) ifs t) (he : ∀ (s : Shared) (H : Hp) (C : Addr) (cl : List (Str × Addr)) (fp : List Addr), ED B (Blk X scope s H C cl fp) elt fa)
    (ok : BlkOk X.N X.env.scope scope own := by exact blkOk_by (by decide +kernel)) (hc : X.calm = true := by rfl) (hix : ∀ i ∈ ix, i ∈ own.map (·.2) := by decide) (hs : ∀ x, foldedSetIterable iter X.env x = pure x := by intro _; rfl) :
    EL B X (.ListComp elt [⟨tg, iter, ifs, 0⟩] scope pos) (lComp it ix af (own.map (·.2)) t fa) := by
  refine el_of (pe_lc (g := fun v σ H Q => ∃ d ds, At X.prog X.w H v d ∧ af d = some ds ∧ ∀ vs, AtAll X.prog X.w H vs ds → Q (putV ix vs σ) H) (tt := tTD B X t) (te := tED B X fa) hc nd hi.pi ok (fun s H C cl fp => (hg s H C cl fp).pg) (fun s H C cl fp => (ht s H C cl fp).pts) (fun s H C cl fp => (he s H C cl fp).pe) hs) fun σ H ρ ds ρ' r hf => ?_
  exact lc_read hix r hf fun D xs H' hn hd a p => .id ⟨D, xs, rfl, hn, hd, a, p⟩
/-! ### dict comprehensions, the keys texts -/
theorem dc_read {it : M (List PyData)} {vs : List Nat} {outD : PyData} {Q : VK} (hix : ∀ i ∈ ix, i ∈ vs) (r : Rep X.prog X.w B H σ ρ) (h : dComp it ix af vs fb fa ρ = some (outD, ρ'))
    (k : ∀ D ks kvs H', H D = none → H' D = some (.dK ks) → outD = kvD kvs → AtKs X.prog X.w H' ks (kvs.map fun q => (PyData.str q.1, q.2)) → Post X.prog X.w B σ ρ ρ' H H' → Q (.ref D) H') :
    tDc (tID B X it) (fun v σ H Q => ∃ d ds, At X.prog X.w H v d ∧ af d = some ds ∧ ∀ vs, AtAll X.prog X.w H vs ds → Q (putV ix vs σ) H) L2.tYes (tED B X fb) (tED B X fa) vs σ H Q := by
  obtain ⟨⟨ds, ρ1⟩, h1, h2⟩ := bind2 h
  obtain ⟨hfree, h3⟩ := if_inv h2
  rw [Bool.and_eq_true] at hfree
  obtain ⟨hfree, hsmall⟩ := hfree
  obtain ⟨⟨out, ρn⟩, h4, h5⟩ := bind2 h3
  obtain ⟨rfl, rfl⟩ := pair2 h5
  refine ⟨ρ, ds, ρ1, r, h1, fun J H1 p1 wk D hD => ?_⟩
  have nD := p1.rep.fresh hD
  have hD0 : H D = none := p1.alive D hD
  refine ⟨fun i m HH => m = ds.length - i ∧ i ≤ ds.length ∧ ∃ ρi ks kvs, Post X.prog X.w B (wipe σ vs) (wipeE vs ρ1) (wipeE vs ρi) H1 HH ∧ HH D = some (.dK ks) ∧ AtKs X.prog X.w HH ks (kvs.map fun q => (PyData.str q.1, q.2)) ∧ ks.length ≤ i ∧ dcGo ix af vs fb fa (ds.drop i) kvs ρi = some (out, ρn),
    ⟨ds.length, by simp, Nat.zero_le _, ρ1, [], [], .same p1.rep.wiped (same_new hD), upd_same, .nil, Nat.le_refl _, h4⟩, ?_⟩
  rintro i m HH ⟨rfl, hi, ρi, ks, kvs, pi, eD, aD, lD, go⟩
  by_cases hlt : i < ds.length
  · refine .inr ⟨wk.go i HH hlt pi.ext, fun H' => ∃ ρi ks kvs, Post X.prog X.w B (wipe σ vs) (wipeE vs ρ1) (wipeE vs ρi) H1 H' ∧ H' D = some (.dK ks) ∧ AtKs X.prog X.w H' ks (kvs.map fun q => (PyData.str q.1, q.2)) ∧ ks.length ≤ i + 1 ∧ dcGo ix af vs fb fa (ds.drop (i + 1)) kvs ρi = some (out, ρn), fun H' q => ⟨ds.length - (i + 1), by omega, rfl, hlt, q⟩, fun x Hx y => ?_⟩
    have hd : ds[i]? = some ds[i] := List.getElem?_eq_getElem hlt
    obtain ⟨sm, ax⟩ := wk.yld i HH x Hx _ pi.ext y hd
    rw [List.drop_eq_getElem_cons hlt] at go
    obtain ⟨ρa, g1, g2⟩ := bind2 go
    obtain ⟨xs, g3, g4⟩ := bind2 g1
    cases Option.some.inj g4
    obtain ⟨⟨kd, ρb⟩, g5, g6⟩ := bind2 g2
    obtain ⟨⟨yd, ρc⟩, g7, g8⟩ := bind2 g6
    refine ⟨_, xs, ax, g3, fun us au => ⟨wipe_putV hix, ?_⟩⟩
    have ra := putAll_rep (ix := ix) (pi.rep.same sm) au
    have nown : ∀ ρz Hz, Post X.prog X.w B (putV ix us (wipe σ vs)) (putAll ix xs (wipeE vs ρi)) ρz Hx Hz → Hz D = some (.dK ks) := fun ρz Hz q =>
      q.fr D _ (sm D _ eD) (.inr fun _ z => nomatch z) (.inr ⟨fun z => nD.2.2 (own_wiped (pi.own D (own_put hix z))), nD.2.1⟩)
    simp only [L2.tYes, if_true]
    refine ⟨_, kd, ρb, ra, g5, fun kv H3 q3 ak => ⟨ρb, yd, ρc, q3.rep, g7, fun yv H4 q4 ay => ?_⟩⟩
    have q34 := q3.trans q4
    have eD4 := nown _ _ q34
    dsimp only at g8
    cases kd with
    | str x =>
      have hsz : ks.length < sizeLine := by
        have := small_lt hsmall
        dsimp only at *
        omega
      refine ⟨ks, .inr x, (ak.ext q4.ext).str_inv, eD4, hsz, ρc, _, putS kvs x yd, ?_, upd_same, ?_, ?_, g8⟩
      · exact (turn_post hix pi sm q34).poke p1.rep.wiped hD eD4 (fun z => z) (fun _ z => nomatch z) (.inr fun _ z => nomatch z) upd_but' ⟨_, upd_same⟩
      · have ex := ext_but eD4 (fun z => z) (upd_but' (o := .dK (putK ks (.inr x) yv)))
        exact ((aD.ext (.of sm)).ext q34.ext |>.put ay).ext ex
      · have := length_putK ks (.inr x) yv
        omega
    | _ => cases g8
  · have e : i = ds.length := by omega
    subst e
    rw [List.drop_length] at go
    obtain ⟨rfl, rfl⟩ := pair2 go
    exact .inl ⟨wk.stop HH pi.ext, k D ks kvs HH hD0 eD rfl aD (p1.trans (end_post hfree p1.rep pi))⟩
theorem ed_dcomp {kx vx iter : Expr} {scope : Scope} {own : List (Str × Nat)} {it : M (List PyData)} (nd : X.N.Nodup) (hi : ID B X tg iter it) (hg : ∀ (s : Shared) (H : Hp) (C : Addr) (cl : List (Str × Addr)) (fp : List Addr), GD (Blk X scope s H C cl fp) tg ix af)
    (hk : ∀ (s : Shared) (H : Hp) (C : Addr) (cl : List (Str × Addr)) (fp : List Addr), ED B (Blk X scope s H C cl fp) kx fb) (he : ∀ (s : Shared) (H : Hp) (C : Addr) (cl : List (Str × Addr)) (fp : List Addr), ED B (Blk X scope s H C cl fp) vx fa)
    (ok : BlkOk X.N X.env.scope scope own := by exact blkOk_by (by decide +kernel)) (hc : X.calm = true := by rfl) (hix : ∀ i ∈ ix, i ∈ own.map (·.2) := by decide) (hs : ∀ x, foldedSetIterable iter X.env x = pure x := by intro _; rfl) :
    ED B X (.DictComp kx vx [⟨tg, iter, [], 0⟩] scope pos) (dComp it ix af (own.map (·.2)) fb fa) := by
  refine ed_of (pe_dc (g := fun v σ H Q => ∃ d ds, At X.prog X.w H v d ∧ af d = some ds ∧ ∀ vs, AtAll X.prog X.w H vs ds → Q (putV ix vs σ) H) (tk := tED B X fb) (tv := tED B X fa) hc nd hi.pi ok (fun s H C cl fp => (hg s H C cl fp).pg) (fun s H C cl fp => pts_nil) (fun s H C cl fp => (hk s H C cl fp).pe) (fun s H C cl fp => (he s H C cl fp).pe) hs) fun σ H ρ ds ρ' r hf => ?_
  refine dc_read hix r hf fun D ks kvs H' hn hd e a p => gh_lock hd True.intro fun od => ?_
  subst e
  have ex := ext_but hd (fun z => z) (upd_but' (o := .frz od (.dK ks)))
  exact ⟨p.poke r hn hd (fun z => z) (fun _ z => nomatch z) (.inr fun _ z => nomatch z) upd_but' ⟨_, upd_same⟩, .dK upd_same (a.ext ex)⟩
/-! ### what a name gets -/
def NewSl (P : Program) (w : World) (B : Base) (H H' : Hp) (v : V) (s : Sl) : Prop := SlOk P w B H' (some (some v)) s ∧ (s.own = true → ∀ p, v = .ref p → H p = none)
structure VD (B : Base) (X : Cx) (e : Expr) (f : M Sl) : Prop where
  run : ∀ (pins : List (Addr × Obj)) (s : Shared) (σ : L2.St) (H : Hp) (ρ : DEnv) (d : Sl) (ρ' : DEnv), Inv X pins σ H s → Rep X.prog X.w B H σ ρ → f ρ = some (d, ρ') →
    wpAny (model X.prog X.w) X.A (eval e X.env) (EP X pins σ fun v H' => Post X.prog X.w B σ ρ ρ' H H' ∧ NewSl X.prog X.w B H H' v d) X.xe s
variable {m m' : M Sl}
def tVD (B : Base) (X : Cx) (f : M Sl) : TE := fun σ H Q => ∃ ρ d ρ', Rep X.prog X.w B H σ ρ ∧ f ρ = some (d, ρ') ∧ ∀ v H', Post X.prog X.w B σ ρ ρ' H H' → NewSl X.prog X.w B H H' v d → Q v H'
theorem VD.pe (h : VD B X e m) : PE X e (tVD B X m) := ⟨fun pins s σ H Q I ⟨ρ, d, ρ', r, hf, k⟩ => thn (h.run pins s σ H ρ d ρ' I r hf) fun u s' ⟨v, H', I', rv, p, a⟩ => ⟨v, H', I', rv, k v H' p a⟩⟩
theorem vd_D (h : ED B X e f) : VD B X e (vD f) := by
  refine ⟨fun pins s σ H ρ d ρ' I r hf => ?_⟩
  obtain ⟨⟨x, ρ1⟩, h1, h2⟩ := bind2 hf
  obtain ⟨rfl, rfl⟩ := pair2 h2
  exact thn (h.run pins s σ H ρ x ρ1 I r h1) fun u s' ⟨v, H', I', rv, p, a⟩ => ⟨v, H', I', rv, p, ⟨v, rfl, a⟩, fun z => nomatch z⟩
theorem vd_L (h : EL B X e g) : VD B X e (vL g) := by
  refine ⟨fun pins s σ H ρ d ρ' I r hf => ?_⟩
  obtain ⟨⟨x, ρ1⟩, h1, h2⟩ := bind2 hf
  obtain ⟨rfl, rfl⟩ := pair2 h2
  refine thn (h.run pins s σ H ρ x ρ1 I r h1) fun u s' ⟨v, H', I', rv, q, xs, ev, n, hq, a, p⟩ => ⟨v, H', I', rv, p, ?_, fun _ q' e => ?_⟩
  · subst ev
    exact ⟨q, xs, rfl, hq, a⟩
  · subst ev
    cases e
    exact n
theorem vd_K {pos : Pos} : VD B X (.Dict [] [] pos) vK := by
  refine ⟨fun pins s σ H ρ d ρ' I r hf => pe_dnewK.run pins s σ H _ I fun q hq => ?_⟩
  obtain ⟨rfl, rfl⟩ := pair2 hf
  exact ⟨.same r (same_new hq), ⟨q, [], rfl, upd_same, .nil⟩, fun _ q' e => by
    cases e
    exact hq⟩
theorem vd_N {pos : Pos} (hT : B.T = []) : VD B X (.Dict [] [] pos) vN := by
  refine ⟨fun pins s σ H ρ d ρ' I r hf => wpAny_Dict_empty ?_⟩
  obtain ⟨rfl, rfl⟩ := pair2 hf
  have hq := I.hok.fresh (Nat.le_refl s.heap.objs.size)
  exact ⟨.ref s.heap.objs.size, _, nd_new (tk := s.toks) I, rfl, .same r (same_new hq), ⟨_, [], rfl, upd_same, .nil, hT⟩, fun _ q' e => by
    cases e
    exact hq⟩
/-! ### statements -/
structure PostS (P : Program) (w : World) (B : Base) (σ : L2.St) (ρ : DEnv) (σ' : L2.St) (ρ' : DEnv) (H H' : Hp) : Prop where
  rep : Rep P w B H' σ' ρ'
  fr : Fram B σ ρ H H'
  own : ∀ b, Own σ' ρ' b → Own σ ρ b ∨ H b = none
  alive : ∀ b, H' b = none → H b = none
theorem Post.st (p : Post P w B σ ρ ρ' H H') : PostS P w B σ ρ σ ρ' H H' := ⟨p.rep, p.fr, fun b o => .inl (p.own b o), p.alive⟩
theorem PostS.trans {σ1 σ2 : L2.St} (p : PostS P w B σ ρ σ1 ρ1 H H1) (q : PostS P w B σ1 ρ1 σ2 ρ2 H1 H2) : PostS P w B σ ρ σ2 ρ2 H H2 := by
  refine ⟨q.rep, fun b o h n c => q.fr b o (p.fr b o h n c) n (c.imp id fun z => ⟨fun y => ?_, z.2⟩), fun b y => ?_, fun b z => p.alive b (q.alive b z)⟩
  · rcases p.own b y with k | k
    · exact z.1 k
    · rw [k] at h
      cases h
  · rcases q.own b y with k | k
    · exact p.own b k
    · exact .inr (p.alive b k)
theorem own_assign {i : Nat} {v : V} {sl : Sl} {b : Addr} (hl : ρ.sl.length = σ.length) (o : Own (σ.set i (some v)) (ρ.put i sl) b) : Own σ ρ b ∨ (sl.own = true ∧ v = .ref b) := by
  obtain ⟨j, s, h1, h2, h3⟩ := o
  have hj : j < σ.length := by
    have z := (List.getElem?_eq_some_iff.mp h1).1
    have z : j < (ρ.sl.set i sl).length := z
    rw [List.length_set] at z
    omega
  rcases put_get h1 with ⟨e1, e2⟩ | ⟨e1, e2⟩
  · subst e1 e2
    rw [List.getElem?_set_self hj] at h3
    exact .inr ⟨h2, Option.some.inj (Option.some.inj h3)⟩
  · rw [List.getElem?_set_ne (Ne.symm e1)] at h3
    exact .inl ⟨j, s, e2, h2, h3⟩
theorem Post.store {i : Nat} {v : V} {sl : Sl} (r : Rep P w B H σ ρ) (p : Post P w B σ ρ ρ1 H H1) (n : NewSl P w B H H1 v sl) : PostS P w B σ ρ (σ.set i (some v)) (ρ1.put i sl) H H1 := by
  have nw : sl.own = true → ∀ q, v = .ref q → B.H0 q = none ∧ ¬ B.src q ∧ ¬ Own σ ρ1 q := fun o q e => by
    obtain ⟨a, b, c⟩ := r.fresh (n.2 o q e)
    exact ⟨a, b, fun z => c (p.own q z)⟩
  refine ⟨p.rep.assign n.1 nw, p.fr, fun b o => ?_, p.alive⟩
  rcases own_assign p.rep.len o with k | ⟨k1, k2⟩
  · exact .inl (p.own b k)
  · exact .inr (n.2 k1 b k2)
def dEnds (P : Program) (w : World) (B : Base) (σ : L2.St) (ρ : DEnv) (H : Hp) (ρ' : DEnv) : Fl → Ends
  | .next => ⟨fun σ' H' => PostS P w B σ ρ σ' ρ' H H', fun _ _ => False, fun _ _ => False, fun _ _ => False⟩
  | .brk => ⟨fun _ _ => False, fun _ _ => False, fun σ' H' => PostS P w B σ ρ σ' ρ' H H', fun _ _ => False⟩
  | .cont => ⟨fun _ _ => False, fun _ _ => False, fun _ _ => False, fun σ' H' => PostS P w B σ ρ σ' ρ' H H'⟩
  | .ret d => ⟨fun _ _ => False, fun v H' => HeapOk B ρ'.src H' ∧ Fram B σ ρ H H' ∧ (∀ b, H' b = none → H b = none) ∧ At P w H' v d, fun _ _ => False, fun _ _ => False⟩
theorem sp_mono {D D' : Ends} {fl : Flow} {s' : Shared} (h : SP X pins D fl s') (k1 : ∀ σ H, D.nx σ H → D'.nx σ H) (k2 : ∀ v H, D.rt v H → D'.rt v H) (k3 : ∀ σ H, D.bk σ H → D'.bk σ H) (k4 : ∀ σ H, D.ct σ H → D'.ct σ H) : SP X pins D' fl s' := by
  cases fl with
  | next => obtain ⟨σ', H', I, q⟩ := h; exact ⟨σ', H', I, k1 _ _ q⟩
  | brk => obtain ⟨σ', H', I, q⟩ := h; exact ⟨σ', H', I, k3 _ _ q⟩
  | cont => obtain ⟨σ', H', I, q⟩ := h; exact ⟨σ', H', I, k4 _ _ q⟩
  | ret u => obtain ⟨v, σ', H', I, r, q⟩ := h; exact ⟨v, σ', H', I, r, k2 _ _ q⟩
/-- D follows from what fl leaves -/
def Leads (D0 D : Ends) : Prop := (∀ σ H, D0.nx σ H → D.nx σ H) ∧ (∀ v H, D0.rt v H → D.rt v H) ∧ (∀ σ H, D0.bk σ H → D.bk σ H) ∧ ∀ σ H, D0.ct σ H → D.ct σ H
structure SD (B : Base) (X : Cx) (st : Stmt) (g : G) : Prop where
  run : ∀ (pins : List (Addr × Obj)) (s : Shared) (σ : L2.St) (H : Hp) (ρ : DEnv) (fl : Fl) (ρ' : DEnv), Inv X pins σ H s → Rep X.prog X.w B H σ ρ → g ρ = some (fl, ρ') →
    wpAny (model X.prog X.w) X.A (exec st X.env) (SP X pins (dEnds X.prog X.w B σ ρ H ρ' fl)) X.xe s
structure SDs (B : Base) (X : Cx) (st : List Stmt) (g : G) : Prop where
  run : ∀ (pins : List (Addr × Obj)) (s : Shared) (σ : L2.St) (H : Hp) (ρ : DEnv) (fl : Fl) (ρ' : DEnv), Inv X pins σ H s → Rep X.prog X.w B H σ ρ → g ρ = some (fl, ρ') →
    wpAny (model X.prog X.w) X.A (execs st X.env) (SP X pins (dEnds X.prog X.w B σ ρ H ρ' fl)) X.xe s
def tSD (B : Base) (X : Cx) (g : G) : TS := fun D σ H => ∃ ρ fl ρ', Rep X.prog X.w B H σ ρ ∧ g ρ = some (fl, ρ') ∧ Leads (dEnds X.prog X.w B σ ρ H ρ' fl) D
variable {st : Stmt} {sts : List Stmt} {g1 g2 : G}
theorem SD.ps (h : SD B X st g1) : PS X st (tSD B X g1) := ⟨fun pins s σ H D I ⟨ρ, fl, ρ', r, hf, k1, k2, k3, k4⟩ => thn (h.run pins s σ H ρ fl ρ' I r hf) fun u s' q => sp_mono q k1 k2 k3 k4⟩
theorem SDs.pss (h : SDs B X sts g1) : PSs X sts (tSD B X g1) := ⟨fun pins s σ H D I ⟨ρ, fl, ρ', r, hf, k1, k2, k3, k4⟩ => thn (h.run pins s σ H ρ fl ρ' I r hf) fun u s' q => sp_mono q k1 k2 k3 k4⟩
theorem sd_of {tt : TS} (h : PS X st tt) (k : ∀ σ H ρ fl ρ', Rep X.prog X.w B H σ ρ → g1 ρ = some (fl, ρ') → tt (dEnds X.prog X.w B σ ρ H ρ' fl) σ H) : SD B X st g1 := ⟨fun pins s σ H ρ fl ρ' I r hf => h.run pins s σ H _ I (k σ H ρ fl ρ' r hf)⟩
theorem sds_of {tt : TS} (h : PSs X sts tt) (k : ∀ σ H ρ fl ρ', Rep X.prog X.w B H σ ρ → g1 ρ = some (fl, ρ') → tt (dEnds X.prog X.w B σ ρ H ρ' fl) σ H) : SDs B X sts g1 := ⟨fun pins s σ H ρ fl ρ' I r hf => h.run pins s σ H _ I (k σ H ρ fl ρ' r hf)⟩
theorem Leads.refl (D : Ends) : Leads D D := ⟨fun _ _ h => h, fun _ _ h => h, fun _ _ h => h, fun _ _ h => h⟩
theorem sd_no : SD B X st eNo := ⟨fun _ _ _ _ _ _ _ _ _ h => nomatch h⟩
theorem sds_no : SDs B X sts eNo := ⟨fun _ _ _ _ _ _ _ _ _ h => nomatch h⟩
theorem sds_nil : SDs B X [] sNext := sds_of pss_nil fun σ H ρ fl ρ' r hf => by
  obtain ⟨rfl, rfl⟩ := pair2 hf
  exact (Post.refl r).st
theorem sds_one (h : SD B X st g1) : SDs B X [st] g1 := sds_of (pss_one h.ps) fun σ H ρ fl ρ' r hf => ⟨ρ, fl, ρ', r, hf, .refl _⟩
/-- what follows, seen from before -/
theorem leads_after {σ1 : L2.St} {fl : Fl} (p : PostS P w B σ ρ σ1 ρ1 H H1) : Leads (dEnds P w B σ1 ρ1 H1 ρ2 fl) (dEnds P w B σ ρ H ρ2 fl) := by
  cases fl with
  | next => exact ⟨fun σ' H' q => p.trans q, fun _ _ h => h, fun _ _ h => h, fun _ _ h => h⟩
  | brk => exact ⟨fun _ _ h => h, fun _ _ h => h, fun σ' H' q => p.trans q, fun _ _ h => h⟩
  | cont => exact ⟨fun _ _ h => h, fun _ _ h => h, fun _ _ h => h, fun σ' H' q => p.trans q⟩
  | ret d =>
    refine ⟨fun _ _ h => h, fun v H' ⟨q1, q2, q3, q4⟩ => ⟨q1, fun b o h n c => q2 b o (p.fr b o h n c) n (c.imp id fun z => ⟨fun y => ?_, z.2⟩), fun b z => p.alive b (q3 b z), q4⟩, fun _ _ h => h, fun _ _ h => h⟩
    rcases p.own b y with k | k
    · exact z.1 k
    · rw [k] at h
      cases h
theorem sds_cons (h1 : SD B X st g1) (h2 : SDs B X sts g2) : SDs B X (st :: sts) (sSeq g1 g2) := by
  refine sds_of (pss_cons h1.ps h2.pss) fun σ H ρ fl ρ' r hf => ?_
  obtain ⟨⟨f1, ρ1⟩, h3, h4⟩ := bind2 hf
  refine ⟨ρ, f1, ρ1, r, h3, ?_⟩
  cases f1 with
  | next => exact ⟨fun σ1 H1 p => ⟨ρ1, fl, ρ', p.rep, h4, leads_after p⟩, fun _ _ h => h.elim, fun _ _ h => h.elim, fun _ _ h => h.elim⟩
  | brk =>
    obtain ⟨rfl, rfl⟩ := pair2 h4
    exact ⟨fun _ _ h => h.elim, fun _ _ h => h.elim, fun σ1 H1 p => p, fun _ _ h => h.elim⟩
  | cont =>
    obtain ⟨rfl, rfl⟩ := pair2 h4
    exact ⟨fun _ _ h => h.elim, fun _ _ h => h.elim, fun _ _ h => h.elim, fun σ1 H1 p => p⟩
  | ret d =>
    obtain ⟨rfl, rfl⟩ := pair2 h4
    exact ⟨fun _ _ h => h.elim, fun σ1 H1 p => p, fun _ _ h => h.elim, fun _ _ h => h.elim⟩
theorem sd_ret (h : ED B X e f) : SD B X (.Return (some e) pos) (sRet f) := by
  refine sd_of (ps_ret h.pe) fun σ H ρ fl ρ' r hf => ?_
  obtain ⟨⟨d, ρ1⟩, h1, h2⟩ := bind2 hf
  obtain ⟨rfl, rfl⟩ := pair2 h2
  exact ⟨ρ, d, ρ1, r, h1, fun v H' p a => ⟨p.rep.hp, p.fr, p.alive, a⟩⟩
theorem sd_expr (h : ED B X e f) (hs : swapsWith e none pos.line X.env = pure false := by rfl) : SD B X (.Expr e pos) (sExpr f) := by
  refine sd_of (ps_expr h.pe hs) fun σ H ρ fl ρ' r hf => ?_
  obtain ⟨⟨d, ρ1⟩, h1, h2⟩ := bind2 hf
  obtain ⟨rfl, rfl⟩ := pair2 h2
  exact ⟨ρ, d, ρ1, r, h1, fun v H' p a => p.st⟩
theorem sd_if {cnd : Expr} {ya yb : List Stmt} (hc : TD B X cnd t) (ha : SDs B X ya g1) (hb : SDs B X yb g2) : SD B X (.If cnd ya yb pos) (sIf t g1 g2) := by
  refine sd_of (ps_if hc.pt ha.pss hb.pss) fun σ H ρ fl ρ' r hf => ?_
  obtain ⟨⟨bb, ρ1⟩, h1, h2⟩ := bind2 hf
  refine ⟨ρ, bb, ρ1, r, h1, fun H1 p => ?_⟩
  dsimp only at h2
  cases bb with
  | true =>
    rw [if_pos rfl] at h2 ⊢
    exact ⟨ρ1, fl, ρ', p.rep, h2, leads_after p.st⟩
  | false =>
    rw [if_neg Bool.false_ne_true] at h2 ⊢
    exact ⟨ρ1, fl, ρ', p.rep, h2, leads_after p.st⟩
theorem own_puts : ∀ {ix : List Nat} {us : List V} {xs : List PyData} {σ : L2.St} {ρ : DEnv} {b : Addr}, ρ.sl.length = σ.length → Own (putV ix us σ) (putAll ix xs ρ) b → us.length = xs.length → Own σ ρ b
  | [], us, xs, σ, ρ, b, hl, o, e => by
    cases us <;> cases xs <;> exact o
  | i :: ix, [], [], σ, ρ, b, hl, o, e => o
  | i :: ix, [], x :: xs, σ, ρ, b, hl, o, e => by cases e
  | i :: ix, u :: us, [], σ, ρ, b, hl, o, e => by cases e
  | i :: ix, u :: us, x :: xs, σ, ρ, b, hl, o, e => by
    have z := own_puts (ix := ix) (us := us) (xs := xs) (σ := σ.set i (some u)) (ρ := ρ.put i (.dat x)) (by show (ρ.sl.set i _).length = _; rw [List.length_set, List.length_set]; exact hl) o (Nat.succ.inj e)
    rcases own_assign hl z with k | ⟨k, _⟩
    · exact k
    · cases k
theorem post_puts {us : List V} {xs : List PyData} (r : Rep P w B H σ ρ) (e : Same H H') (a : AtAll P w H' us xs) : PostS P w B σ ρ (putV ix us σ) (putAll ix xs ρ) H H' :=
  ⟨putAll_rep (r.same e) a, fun b o h _ _ => e b o h, fun b o => .inl (own_puts r.len o a.length), fun b z => e.free z⟩
theorem sd_set {e : Expr} (hg : GD X tg ix af) (he : ED B X e f) (hs : swapsWithSole [tg] e pos.line X.env = pure false := by rfl) (hw : swappedStores [tg] e X.env = pure none := by rfl) (h1 : (assignEach [tg] X.env).map (·.2) = [assign tg X.env] := by rfl) : SD B X (.Assign [tg] e pos) (sSet ix af f) := by
  refine sd_of (ps_asg he.pe hg.pg hs hw h1) fun σ H ρ fl ρ' r hf => ?_
  obtain ⟨⟨d, ρ1⟩, h2, h3⟩ := bind2 hf
  obtain ⟨ρ2, h4, h5⟩ := bind2 h3
  obtain ⟨rfl, rfl⟩ := pair2 h5
  obtain ⟨xs, h6, h7⟩ := bind2 h4
  cases Option.some.inj h7
  exact ⟨ρ, d, ρ1, r, h2, fun v H1 p a => ⟨d, xs, a, h6, fun us au => p.st.trans (post_puts p.rep (.refl _) au)⟩⟩
theorem sd_setV (i : Nat) {x : Str} {p2 : Pos} (nd : X.N.Nodup) (h : VD B X e m) (hi : X.N[i]? = some x := by rfl) (hx : Loc X.env.scope x := by first | exact Or.inl rfl | exact Or.inr rfl) (hs : swapsWith e (some (.Name x p2)) pos.line X.env = pure false := by rfl) (hf : X.fn x = true ∨ X.env.scope.names.lookup x = some .local := by first | exact .inl rfl | exact .inr rfl) :
    SD B X (.Assign [.Name x p2] e pos) (sSetV i m) := by
  refine sd_of (ps_set nd hi hx h.pe hs hf) fun σ H ρ fl ρ' r hf => ?_
  obtain ⟨⟨d, ρ1⟩, h1, h2⟩ := bind2 hf
  obtain ⟨rfl, rfl⟩ := pair2 h2
  exact ⟨ρ, d, ρ1, r, h1, fun v H' p a => p.store r a⟩
/-- name = [.. for ..], the name a local: stored within the comprehension's frame; the name keeps the new list as its own -/
theorem sd_setLc (i : Nat) {y : Str} {py spos : Pos} {elt iter : Expr} {ifs : List Expr} {scope : Scope} {own : List (Str × Nat)} {it : M (List PyData)} (nd : X.N.Nodup) (hi : ID B X tg iter it) (hg : ∀ (s : Shared) (H : Hp) (C : Addr) (cl : List (Str × Addr)) (fp : List Addr), GD (Blk X scope s H C cl fp) tg ix af)
    (ht : ∀ (s : Shared) (H : Hp) (C : Addr) (cl : List (Str × Addr)) (fp : List Addr), TDs B (Blk X scope s H C cl fp) ifs t) (he : ∀ (s : Shared) (H : Hp) (C : Addr) (cl : List (Str × Addr)) (fp : List Addr), ED B (Blk X scope s H C cl fp) elt fa)
    (hy : X.N[i]? = some y := by rfl) (hyl : X.env.scope.names.lookup y = some .local := by rfl) (hsw : swapsWith (.ListComp elt [⟨tg, iter, ifs, 0⟩] scope pos) (some (.Name y py)) spos.line X.env = pure true := by exact sw_true rfl rfl rfl (by decide +kernel))
    (ok : BlkOk X.N X.env.scope scope own := by exact blkOk_by (by decide +kernel)) (hc : X.calm = true := by rfl) (hix : ∀ i ∈ ix, i ∈ own.map (·.2) := by decide) (hs : ∀ x, foldedSetIterable iter X.env x = pure x := by intro _; rfl) :
    SD B X (.Assign [.Name y py] (.ListComp elt [⟨tg, iter, ifs, 0⟩] scope pos) spos) (sSetV i (vL (lComp it ix af (own.map (·.2)) t fa))) := by
  refine sd_of (ps_setLc (g := fun v σ H Q => ∃ d ds, At X.prog X.w H v d ∧ af d = some ds ∧ ∀ vs, AtAll X.prog X.w H vs ds → Q (putV ix vs σ) H) (tt := tTD B X t) (te := tED B X fa) hc nd hy hyl hsw hi.pi ok (fun s H C cl fp => (hg s H C cl fp).pg) (fun s H C cl fp => (ht s H C cl fp).pts) (fun s H C cl fp => (he s H C cl fp).pe) hs) fun σ H ρ fl ρ' r hf => ?_
  obtain ⟨⟨d, ρ1⟩, h1, h2⟩ := bind2 hf
  obtain ⟨rfl, rfl⟩ := pair2 h2
  obtain ⟨⟨ds, ρ2⟩, h3, h4⟩ := bind2 h1
  obtain ⟨rfl, rfl⟩ := pair2 h4
  refine lc_read hix r h3 fun D xs H' hn hd a p => ?_
  exact p.store r ⟨⟨D, xs, rfl, hd, a⟩, fun _ q e => by
    cases e
    exact hn⟩
end
end Dl
end
section
set_option Elab.async false
set_option linter.all false
set_option autoImplicit false
set_option maxRecDepth 100000
set_option maxHeartbeats 2000000
/-! RulesA: for, pairs of names, stores, append, lending. -/
namespace Dl
open PySem PySem.Spec PyProof.Rows L2
section
variable {P : Program} {w : World} {B : Base} {H H' H1 H2 : Hp} {σ σ' : L2.St} {ρ ρ' ρ1 ρ2 : DEnv} {X : Cx} {e a b c tg : Expr} {f fa fb fc : M PyData} {t : M Bool} {g : M (List PyData)} {pins : List (Addr × Obj)} {s : Shared} {pos p : Pos} {ix : List Nat} {af : Asg} {m m' : M Sl} {sts : List Stmt} {g1 g2 : G}
theorem sd_setLcD (i : Nat) {y : Str} {py spos : Pos} {elt iter : Expr} {ifs : List Expr} {scope : Scope} {own : List (Str × Nat)} {it : M (List PyData)} (nd : X.N.Nodup) (hi : ID B X tg iter it) (hg : ∀ (s : Shared) (H : Hp) (C : Addr) (cl : List (Str × Addr)) (fp : List Addr), GD (Blk X scope s H C cl fp) tg ix af)
    (ht : ∀ (s : Shared) (H : Hp) (C : Addr) (cl : List (Str × Addr)) (fp : List Addr), TDs B (Blk X scope s H C cl fp) ifs t) (he : ∀ (s : Shared) (H : Hp) (C : Addr) (cl : List (Str × Addr)) (fp : List Addr), ED B (Blk X scope s H C cl fp) elt fa)
    (hy : X.N[i]? = some y := by rfl) (hyl : X.env.scope.names.lookup y = some .local := by rfl) (hsw : swapsWith (.ListComp elt [⟨tg, iter, ifs, 0⟩] scope pos) (some (.Name y py)) spos.line X.env = pure true := by exact sw_true rfl rfl rfl (by decide +kernel))
    (ok : BlkOk X.N X.env.scope scope own := by exact blkOk_by (by decide +kernel)) (hc : X.calm = true := by rfl) (hix : ∀ i ∈ ix, i ∈ own.map (·.2) := by decide) (hs : ∀ x, foldedSetIterable iter X.env x = pure x := by intro _; rfl) :
    SD B X (.Assign [.Name y py] (.ListComp elt [⟨tg, iter, ifs, 0⟩] scope pos) spos) (sSetV i (vD (eFz (lComp it ix af (own.map (·.2)) t fa)))) := by
  refine ⟨fun pins s σ H ρ fl ρ' I r hf => ?_⟩
  obtain ⟨⟨d, ρ1⟩, h1, h2⟩ := bind2 hf
  obtain ⟨rfl, rfl⟩ := pair2 h2
  obtain ⟨⟨x, ρ2⟩, h3, h4⟩ := bind2 h1
  obtain ⟨rfl, rfl⟩ := pair2 h4
  obtain ⟨⟨ds, ρ3⟩, h5, h6⟩ := bind2 h3
  obtain ⟨rfl, rfl⟩ := pair2 h6
  refine thn ((ps_setLc (g := fun v σ H Q => ∃ d ds, At X.prog X.w H v d ∧ af d = some ds ∧ ∀ vs, AtAll X.prog X.w H vs ds → Q (putV ix vs σ) H) (tt := tTD B X t) (te := tED B X fa) hc nd hy hyl hsw hi.pi ok (fun s H C cl fp => (hg s H C cl fp).pg) (fun s H C cl fp => (ht s H C cl fp).pts) (fun s H C cl fp => (he s H C cl fp).pe) hs).run pins s σ H
    ⟨fun σ' H' => ∃ D xs, σ' = σ.set i (some (.ref D)) ∧ H D = none ∧ H' D = some (.lst xs) ∧ AtAll X.prog X.w H' xs ds ∧ Post X.prog X.w B σ ρ ρ3 H H', fun _ _ => False, fun _ _ => False, fun _ _ => False⟩ I
    (lc_read hix r h5 fun D xs H' hn hd a p => ⟨D, xs, rfl, hn, hd, a, p⟩)) fun fl' s' q => ?_
  cases fl' with
  | next =>
    obtain ⟨σ', H', I', D, xs, rfl, hn, hd, a, p⟩ := q
    obtain ⟨od, I2⟩ := I'.lock hd True.intro
    have ex := ext_but hd (fun z => z) (upd_but' (o := .frz od (.lst xs)))
    refine ⟨_, _, I2, ?_⟩
    exact (p.poke r hn hd (fun z => z) (fun _ z => nomatch z) (.inr fun _ z => nomatch z) upd_but' ⟨_, upd_same⟩).store r ⟨⟨.ref D, rfl, .lst upd_same (a.ext ex)⟩, fun z => nomatch z⟩
  | brk => obtain ⟨_, _, _, q⟩ := q; exact q.elim
  | cont => obtain ⟨_, _, _, q⟩ := q; exact q.elim
  | ret u => obtain ⟨_, _, _, _, _, q⟩ := q; exact q.elim
/-! ### for -/
theorem sd_for {iter : Expr} {body : List Stmt} {it : M (List PyData)} (hi : ID B X tg iter it) (hg : GD X tg ix af) (hb : SDs B X body g1) (hp : PassesOwn (model X.prog X.w) X.A X.env X.xe := by exact PassesOwn.never) (hc : X.calm = true := by rfl) (hs : ∀ x, foldedSetIterable iter X.env x = pure x := by intro _; rfl) :
    SD B X (.For tg iter body [] pos) (sFor it ix af g1) := by
  refine sd_of (ps_for hp hc hi.pi hg.pg hb.pss hs) fun σ H ρ fl ρ' r hf => ?_
  obtain ⟨⟨ds, ρ1⟩, h1, h2⟩ := bind2 hf
  refine ⟨ρ, ds, ρ1, r, h1, fun J H1 p1 wk => ?_⟩
  refine ⟨fun i m σi HH => m = ds.length - i ∧ i ≤ ds.length ∧ ∃ ρi, PostS X.prog X.w B σ ρ1 σi ρi H1 HH ∧ forGo ix af g1 (ds.drop i) ρi = some (fl, ρ'), ⟨ds.length, by simp, Nat.zero_le _, ρ1, (Post.refl p1.rep).st, h2⟩, ?_⟩
  rintro i m σi HH ⟨rfl, hi, ρi, pi, go⟩
  have ex : Ext H1 HH := fun b o h i => pi.fr b o h i.nt (.inl i)
  by_cases hlt : i < ds.length
  · have hd : ds[i]? = some ds[i] := List.getElem?_eq_getElem hlt
    rw [List.drop_eq_getElem_cons hlt] at go
    obtain ⟨ρa, g3, g4⟩ := bind2 go
    obtain ⟨xs, g5, g6⟩ := bind2 g3
    cases Option.some.inj g6
    obtain ⟨⟨fl1, ρb⟩, g7, g8⟩ := bind2 g4
    refine .inr ⟨wk.go i HH hlt ex, fun σ' H' => ∃ ρi, PostS X.prog X.w B σ ρ1 σ' ρi H1 H' ∧ forGo ix af g1 (ds.drop (i + 1)) ρi = some (fl, ρ'), fun σ' H' q => ⟨ds.length - (i + 1), by omega, rfl, hlt, q⟩, fun x Hx y => ?_⟩
    obtain ⟨sm, ax⟩ := wk.yld i HH x Hx _ ex y hd
    refine ⟨_, xs, ax, g5, fun us au => ?_⟩
    have pa := pi.trans (post_puts (ix := ix) pi.rep sm au)
    refine ⟨_, fl1, ρb, pa.rep, g7, ?_⟩
    have full : ∀ {σ3 : L2.St} {H3 : Hp}, PostS X.prog X.w B (putV ix us σi) (putAll ix xs ρi) σ3 ρb Hx H3 → PostS X.prog X.w B σ ρ1 σ3 ρb H1 H3 := fun q => pa.trans q
    cases fl1 with
    | next => exact ⟨fun σ3 H3 q => ⟨ρb, full q, g8⟩, fun _ _ h => h.elim, fun _ _ h => h.elim, fun _ _ h => h.elim⟩
    | cont => exact ⟨fun _ _ h => h.elim, fun _ _ h => h.elim, fun _ _ h => h.elim, fun σ3 H3 q => ⟨ρb, full q, g8⟩⟩
    | brk =>
      obtain ⟨rfl, rfl⟩ := pair2 g8
      exact ⟨fun _ _ h => h.elim, fun _ _ h => h.elim, fun σ3 H3 q => p1.st.trans (full q), fun _ _ h => h.elim⟩
    | ret d =>
      obtain ⟨rfl, rfl⟩ := pair2 g8
      exact ⟨fun _ _ h => h.elim, fun v H3 q => (leads_after (fl := .ret d) (p1.st.trans pa)).2.1 v H3 q, fun _ _ h => h.elim, fun _ _ h => h.elim⟩
  · have e : i = ds.length := by omega
    subst e
    rw [List.drop_length] at go
    obtain ⟨rfl, rfl⟩ := pair2 go
    exact .inl ⟨wk.stop HH ex, p1.st.trans pi⟩
/-! ### two names at once -/
theorem new_keep {H0 : Hp} {v : V} {sl : Sl} (r : Rep P w B H σ ρ) (n : NewSl P w B H H1 v sl) (p0 : Post P w B σ ρ ρ1 H H1) (p : Post P w B σ ρ1 ρ2 H1 H2) : NewSl P w B H H2 v sl := by
  refine ⟨?_, n.2⟩
  obtain ⟨n1, n2⟩ := n
  have keep : ∀ q o, H q = none → H1 q = some o → NT B o → H2 q = some o := fun q o hq h nt => p.fr q o h nt (.inr ⟨fun z => (r.fresh hq).2.2 (p0.own q z), (r.fresh hq).2.1⟩)
  cases sl with
  | un => exact n1
  | src => exact n1
  | dat d => obtain ⟨v', e, a⟩ := n1; exact ⟨v', e, a.ext p.ext⟩
  | lst ds =>
    obtain ⟨q, xs, e, h, a⟩ := n1
    exact ⟨q, xs, e, keep q _ (n2 rfl q (Option.some.inj (Option.some.inj e))) h (.inr fun _ z => nomatch z), a.ext p.ext⟩
  | dK kvs =>
    obtain ⟨q, xs, e, h, a⟩ := n1
    exact ⟨q, xs, e, keep q _ (n2 rfl q (Option.some.inj (Option.some.inj e))) h (.inr fun _ z => nomatch z), a.ext p.ext⟩
  | nd kvs =>
    obtain ⟨q, xs, e, h, a, hT⟩ := n1
    exact ⟨q, xs, e, keep q _ (n2 rfl q (Option.some.inj (Option.some.inj e))) h (.inr fun _ z => nomatch z), a.ext p.ext, hT⟩
theorem Post.store2 {i j : Nat} {v u : V} {s1 s2 : Sl} (r : Rep P w B H σ ρ) (p : Post P w B σ ρ ρ1 H H1) (n1 : NewSl P w B H H1 v s1) (n2 : NewSl P w B H H1 u s2) (hd : s1.own = true → s2.own = true → v ≠ u) : PostS P w B σ ρ ((σ.set i (some v)).set j (some u)) ((ρ1.put i s1).put j s2) H H1 := by
  have q := p.store (i := i) r n1
  have nw : s2.own = true → ∀ q', u = .ref q' → B.H0 q' = none ∧ ¬ B.src q' ∧ ¬ Own (σ.set i (some v)) (ρ1.put i s1) q' := fun o q' e => by
    obtain ⟨a, b, c⟩ := r.fresh (n2.2 o q' e)
    refine ⟨a, b, fun z => ?_⟩
    rcases own_assign p.rep.len z with k | ⟨k1, k2⟩
    · exact c (p.own q' k)
    · exact hd k1 o (k2.trans e.symm)
  refine ⟨q.rep.assign n2.1 nw, p.fr, fun b o => ?_, p.alive⟩
  rcases own_assign q.rep.len o with k | ⟨k1, k2⟩
  · exact q.own b k
  · exact .inr (n2.2 k1 b k2)
theorem par_read {i j : Nat} {fl : Fl} {D : V → V → Hp → Prop} (r : Rep X.prog X.w B H σ ρ) (hf : sPar i j m m' ρ = some (fl, ρ')) (k : fl = .next → ∀ v u H', PostS X.prog X.w B σ ρ ((σ.set i (some v)).set j (some u)) ρ' H H' → D v u H') :
    tCons (tVD B X m) (tCons (tVD B X m') tNil) σ H fun vs H' => ∃ v u, vs = [v, u] ∧ D v u H' := by
  obtain ⟨⟨s1, ρ1⟩, h1, h2⟩ := bind2 hf
  obtain ⟨⟨s2, ρ2⟩, h3, h4⟩ := bind2 h2
  obtain ⟨rfl, rfl⟩ := pair2 h4
  refine ⟨ρ, s1, ρ1, r, h1, fun v H1 p1 n1 => ⟨ρ1, s2, ρ2, p1.rep, h3, fun u H2 p2 n2 => ⟨v, u, rfl, k rfl v u H2 ?_⟩⟩⟩
  refine (p1.trans p2).store2 r (new_keep (H0 := H) r n1 p1 p2) ⟨n2.1, fun o q e => p1.alive q (n2.2 o q e)⟩ fun o1 o2 e => ?_
  -- the second is newer than the first
  subst e
  obtain ⟨n1, n1'⟩ := n1
  have : ∃ q o, v = .ref q ∧ H1 q = some o := by
    cases s1 with
    | lst ds => obtain ⟨q, xs, e, h, _⟩ := n1; exact ⟨q, _, Option.some.inj (Option.some.inj e), h⟩
    | dK ds => obtain ⟨q, xs, e, h, _⟩ := n1; exact ⟨q, _, Option.some.inj (Option.some.inj e), h⟩
    | nd ds => obtain ⟨q, xs, e, h, _⟩ := n1; exact ⟨q, _, Option.some.inj (Option.some.inj e), h⟩
    | un => cases o1
    | dat d => cases o1
    | src => cases o1
  obtain ⟨q, o, e, h⟩ := this
  rw [n2.2 o2 q e] at h
  cases h
theorem sd_par (i j : Nat) {x y : Str} {px py pt : Pos} {kt k2 : Nat} {pt2 : Pos} (nd : X.N.Nodup) (ha : VD B X a m) (hb : VD B X b m') (hi : X.N[i]? = some x := by rfl) (hj : X.N[j]? = some y := by rfl) (hij : i ≠ j := by decide)
    (hx : X.env.scope.names.lookup x = some .local := by rfl) (hy : X.env.scope.names.lookup y = some .local := by rfl) (hw : swappedStores [.Tuple [.Name x px, .Name y py] kt pt] (.Tuple [a, b] k2 pt2) X.env = pure (some [x, y]) := by rfl)
    (hs : swapsWithSole [.Tuple [.Name x px, .Name y py] kt pt] (.Tuple [a, b] k2 pt2) pos.line X.env = pure false := by rfl) (hc : X.calm = true := by rfl) (hst : starEach [a, b] X.env = (false, eval a X.env) :: starEach [b] X.env := by rfl) (hst2 : starEach [b] X.env = (false, eval b X.env) :: starEach [] X.env := by rfl) :
    SD B X (.Assign [.Tuple [.Name x px, .Name y py] kt pt] (.Tuple [a, b] k2 pt2) pos) (sPar i j m m') := by
  refine sd_of (ps_par hc nd hi hj hij hx hy (pa_cons ha.pe (pa_cons hb.pe pa_nil hst2) hst) hw hs) fun σ H ρ fl ρ' r hf => ?_
  obtain ⟨_, _, e⟩ := bind2 hf
  obtain ⟨_, _, e⟩ := bind2 e
  obtain ⟨rfl, _⟩ := pair2 e
  exact par_read r hf fun _ v u H' p => p
theorem sd_parG (i j : Nat) {x y : Str} {px py pt : Pos} {kt k2 : Nat} {pt2 : Pos} (nd : X.N.Nodup) (ha : VD B X a m) (hb : VD B X b m') (hi : X.N[i]? = some x := by rfl) (hj : X.N[j]? = some y := by rfl)
    (hx : Loc X.env.scope x := by first | exact Or.inl rfl | exact Or.inr rfl) (hfx : X.fn x = true ∨ X.env.scope.names.lookup x = some .local := by first | exact .inl rfl | exact .inr rfl) (hy : Loc X.env.scope y := by first | exact Or.inl rfl | exact Or.inr rfl) (hfy : X.fn y = true ∨ X.env.scope.names.lookup y = some .local := by first | exact .inl rfl | exact .inr rfl)
    (hs : swapsWithSole [.Tuple [.Name x px, .Name y py] kt pt] (.Tuple [a, b] k2 pt2) pos.line X.env = pure false := by rfl) (hw : swappedStores [.Tuple [.Name x px, .Name y py] kt pt] (.Tuple [a, b] k2 pt2) X.env = pure none := by rfl)
    (h1 : (assignEach [.Tuple [.Name x px, .Name y py] kt pt] X.env).map (·.2) = [assign (.Tuple [.Name x px, .Name y py] kt pt) X.env] := by rfl) (hc : X.calm = true := by rfl) (hst : starEach [a, b] X.env = (false, eval a X.env) :: starEach [b] X.env := by rfl) (hst2 : starEach [b] X.env = (false, eval b X.env) :: starEach [] X.env := by rfl)
    (hn : (assignEach [.Name x px, .Name y py] X.env).length = 2 := by rfl) (hf : (assignEach [.Name x px, .Name y py] X.env).findIdx? (·.1) = none := by rfl)
    (ha1 : (assignEach [.Name x px, .Name y py] X.env).map (·.2) = assign (.Name x px) X.env :: (assignEach [.Name y py] X.env).map (·.2) := by rfl) (ha2 : (assignEach [.Name y py] X.env).map (·.2) = assign (.Name y py) X.env :: (assignEach [] X.env).map (·.2) := by rfl) :
    SD B X (.Assign [.Tuple [.Name x px, .Name y py] kt pt] (.Tuple [a, b] k2 pt2) pos) (sPar i j m m') := by
  refine sd_of (ps_asg (pe_tup (pa_cons ha.pe (pa_cons hb.pe pa_nil hst2) hst)) (pg_tup hc (pgs_cons (pg_name nd hi hx hfx) (pgs_cons (pg_name nd hj hy hfy) pgs_nil ha2) ha1) hn hf) hs hw h1) fun σ H ρ fl ρ' r hf => ?_
  obtain ⟨_, _, e⟩ := bind2 hf
  obtain ⟨_, _, e⟩ := bind2 e
  obtain ⟨rfl, _⟩ := pair2 e
  have z := par_read (D := fun v u H' => PostS X.prog X.w B σ ρ ((σ.set i (some v)).set j (some u)) ρ' H H') r hf fun _ v u H' p => p
  obtain ⟨ρ0, s1, ρ1, r1, e1, z⟩ := z
  refine ⟨ρ0, s1, ρ1, r1, e1, fun v H1 q1 n1 => ?_⟩
  obtain ⟨ρ2, s2, ρ3, r2, e2, z⟩ := z v H1 q1 n1
  refine ⟨ρ2, s2, ρ3, r2, e2, fun u H2 q2 n2 => ?_⟩
  obtain ⟨v', u', e, z⟩ := z u H2 q2 n2
  cases e
  refine ⟨by show 2 ≤ sizeLine; decide, fun T hT => ⟨T, [v, u], rfl, .inl (.inl upd_same), rfl, v, [u], rfl, u, [], rfl, rfl, ?_⟩⟩
  have sm := same_new (o := HO.tup [v, u]) hT
  exact ⟨z.rep.same sm, fun b o h n c => sm b o (z.fr b o h n c), z.own, fun b y => z.alive b (sm.free y)⟩
/-! ### stores and append -/
theorem ps_turn {i : Nat} {s1 s2 : Sl} {q : Addr} {u u2 : HO} (p : Post P w B σ ρ ρ1 H H1) (hi : ρ1.sl[i]? = some s1) (ho : s1.own = true) (hq : σ[i]? = some (some (.ref q))) (hu : H1 q = some u) (n : SlOk P w B (upd H1 q u2) σ[i]? s2) : PostS P w B σ ρ σ (ρ1.put i s2) H (upd H1 q u2) :=
  (p.trans (p.rep.turn hi ho hq hu upd_but' ⟨_, upd_same⟩ n)).st
theorem sd_app (i : Nat) {x : Str} {apos cpos : Pos} (hb : ED B X b fb) (hN : X.N[i]? = some x := by rfl) (hv : Vis X.env.scope x := by first | exact Or.inl rfl | exact Or.inr (Or.inl rfl) | exact Or.inr (Or.inr rfl)) (hd : (x == ("__debug__" : Str)) = false := by decide)
    (hcd : (x == ("__classdict__" : Str)) = false := by decide) (hbase : attributeBase (.Name x p) "append" X.env (eval (.Name x p) X.env) = eval (.Name x p) X.env := by rfl)
    (hfew : ((backTo cpos (starEach [b] X.env)).all (fun x => !x.1) && (backToKw cpos (keywordEach [] X.env)).all (fun x => x.1.isSome)
      && decide (([b] : List Expr).length + ([] : List Keyword).length + (if ([] : List Keyword).isEmpty then 0 else 1) < 30)) = true := by rfl)
    (hline : (apos.endLine == cpos.line) = true := by rfl) (hs : starEach [b] X.env = [(false, eval b X.env)] := by rfl) (hsw : swapsWith (.Call (.Attribute (.Name x p) "append" apos) [b] [] cpos) none pos.line X.env = pure false := by rfl) :
    SD B X (.Expr (.Call (.Attribute (.Name x p) "append" apos) [b] [] cpos) pos) (sApp i fb) := by
  refine sd_of (ps_expr (pe_bm PySem.F.plainAttrs_list PySem.F.slot_list_append PySem.F.type_list_append mt_append (pe_var hN hv hd hcd) (pa_cons hb.pe pa_nil (by rw [hs]; rfl)) hbase hfew hline (by rw [hs]; rfl) (by rfl)) hsw) fun σ H ρ fl ρ' r hf => ?_
  obtain ⟨h0, hf⟩ := if_inv hf
  obtain ⟨⟨y, ρ1⟩, h2, h3⟩ := bind2 hf
  obtain ⟨sl, h4, h5⟩ := bind2 h3
  obtain ⟨ds0, h0⟩ := isL_inv h0
  obtain ⟨q, xs0, hq, g1, g2⟩ := own_lst r h0
  refine ⟨.ref q, hq, .inl ⟨rfl, xs0, .inl (.inl g1)⟩, ρ, y, ρ1, r, h2, fun v H2 p2 c => ?_⟩
  cases sl with
  | lst ds =>
    obtain ⟨hz, h6⟩ := if_inv h5
    obtain ⟨rfl, rfl⟩ := pair2 h6
    obtain ⟨q', xs, e, e1, e2⟩ := own_lst p2.rep h4
    cases ref_at hq e
    have ex := ext_but e1 (fun z => z) (upd_but' (o := .lst (xs ++ [v])))
    exact ⟨q, xs, v, rfl, rfl, e1, by rw [e2.length]; exact small_lt hz, ps_turn p2 h4 rfl e e1 ⟨q, _, e, upd_same, (e2.snoc c).ext ex⟩⟩
  | _ => cases h5
theorem sd_putK {k : Nat} (hr : Room k X.A) (i : Nat) {x : Str} {p1 p2 : Pos} (hk : ED B X a fa) (hb : ED B X b fb) (hN : X.N[i]? = some x := by rfl) (hv : Vis X.env.scope x := by first | exact Or.inl rfl | exact Or.inr (Or.inl rfl) | exact Or.inr (Or.inr rfl)) (hd : (x == ("__debug__" : Str)) = false := by decide)
    (hcd : (x == ("__classdict__" : Str)) = false := by decide) (hs : swapsWith b (some (.Subscript (.Name x p1) a p2)) pos.line X.env = pure false := by rfl) : SD B X (.Assign [.Subscript (.Name x p1) a p2] b pos) (sPutK i fa fb) := by
  have hu := hr.units
  refine sd_of (ps_dput (by omega) (pe_var hN hv hd hcd) hk.pe hb.pe hs) fun σ H ρ fl ρ' r hf => ?_
  obtain ⟨⟨vd, ρ1⟩, h1, h2⟩ := bind2 hf
  dsimp only at h2
  split at h2
  · cases h2
  · rename_i h0
    obtain ⟨⟨kd, ρ2⟩, h3, h4⟩ := bind2 h2
    obtain ⟨sl, h5, h6⟩ := bind2 h4
    obtain ⟨ds0, h0⟩ := isK_inv (by simpa using h0)
    refine ⟨ρ, vd, ρ1, r, h1, fun v H1 q1 a1 => ?_⟩
    obtain ⟨q, xs0, hq, g1, g2⟩ := own_dK q1.rep h0
    refine ⟨.ref q, hq, ρ1, kd, ρ2, q1.rep, h3, fun y H2 q2 a2 => ?_⟩
    cases sl with
    | dK kvs =>
      cases kd with
      | str z =>
        obtain ⟨hz, h7⟩ := if_inv h6
        obtain ⟨rfl, rfl⟩ := pair2 h7
        obtain ⟨q', ks, e, e1, e2⟩ := own_dK q2.rep h5
        cases ref_at hq e
        have ex := ext_but e1 (fun z => z) (upd_but' (o := .dK (putK ks (.inr z) v)))
        refine ⟨q, _, rfl, .inl ⟨ks, .inr z, e1, a2.str_inv, ?_, rfl⟩, ps_turn (q1.trans q2) h5 rfl e e1 ⟨q, _, e, upd_same, (e2.put (a1.ext q2.ext)).ext ex⟩⟩
        rw [e2.length, List.length_map]
        exact small_lt hz
      | _ => cases h6
    | _ => cases h6
theorem sd_putN {k : Nat} (hr : Room k X.A) (i : Nat) {x : Str} {p1 p2 : Pos} (hk : ED B X a fa) (hb : ED B X b fb) (hN : X.N[i]? = some x := by rfl) (hv : Vis X.env.scope x := by first | exact Or.inl rfl | exact Or.inr (Or.inl rfl) | exact Or.inr (Or.inr rfl)) (hd : (x == ("__debug__" : Str)) = false := by decide)
    (hcd : (x == ("__classdict__" : Str)) = false := by decide) (hs : swapsWith b (some (.Subscript (.Name x p1) a p2)) pos.line X.env = pure false := by rfl) : SD B X (.Assign [.Subscript (.Name x p1) a p2] b pos) (sPutN i fa fb) := by
  refine ⟨fun pins s σ H ρ fl ρ' I r hf => ?_⟩
  obtain ⟨⟨vd, ρ1⟩, h1, h2⟩ := bind2 hf
  dsimp only at h2
  split at h2
  · cases h2
  · rename_i h0
    obtain ⟨⟨kd, ρ2⟩, h3, h4⟩ := bind2 h2
    obtain ⟨sl, h5, h6⟩ := bind2 h4
    obtain ⟨ds0, h0⟩ := isN_inv (by simpa using h0)
    refine wpAny_Assign_Subscript (thn (hb.run pins s σ H ρ vd ρ1 I r h1) fun vu s1 ⟨v, H1, I1, rv, q1, a1⟩ => ?_) hs
    obtain ⟨q, es0, hq, g1, g2, hT⟩ := own_nd q1.rep h0
    refine thn ((pe_var hN hv hd hcd).run pins s1 σ H1 (fun v H2 => v = .ref q ∧ H2 = H1) I1 ⟨_, hq, rfl, rfl⟩) ?_
    rintro u1 s2 ⟨_, _, I2, r1, rfl, rfl⟩
    obtain rfl : u1 = Value.ref q := r1
    refine thn (hk.run pins s2 σ _ ρ1 kd ρ2 I2 q1.rep h3) fun ku s3 ⟨y, H3, I3, ry, q2, a2⟩ => ?_
    cases sl with
    | nd kvs =>
      obtain ⟨kk, k1, k2⟩ := bind2 h6
      obtain ⟨hz, h7⟩ := if_inv k2
      obtain ⟨rfl, rfl⟩ := pair2 h7
      obtain ⟨k3, k4, k5, ks, k6⟩ := toKey_inv k1
      dsimp only at k4
      subst k4
      obtain ⟨q', es, e, e1, e2, _⟩ := own_nd q2.rep h5
      cases ref_at hq e
      have ak := a2
      rw [k6, NestedKey.data] at ak
      obtain ⟨bq, xs, rfl, b1, b2⟩ := ak.tup_inv
      obtain rfl : ku = Value.ref bq := ry
      have ex := ext_but e1 (fun z => z) (upd_but' (o := ndO X.prog X.w q (putE es kk bq v)))
      refine nd_set hr I3 e1 e2 a2 k5 rv ?_ fun s4 I4 => ⟨σ, _, I4, ps_turn (q1.trans q2) h5 rfl e e1 ⟨q, _, e, upd_same, (e2.put a2 (a1.ext q2.ext)).ext ex, hT⟩⟩
      rw [e2.length, List.length_map]
      exact small_lt hz
    | _ => cases h6
/-! ### an owned dict lent -/
theorem At.unlock {q : Addr} {od : Obj} {ks : List (Key × V)} (hq : H q = some (.frz od (.dK ks))) (e : ∀ b o, b ≠ q → H b = some o → H' b = some o) : ∀ {v : V} {d : PyData}, At P w H v d → noDict d = true → At P w H' v d := by
  have ne : ∀ {b : Addr} {o : HO}, H b = some o → (∀ od ks, o ≠ .frz od (.dK ks)) → H' b = some o := fun {b o} h n => e b o (fun z => by
    rw [z, hq] at h
    exact n _ _ (Option.some.inj h).symm) h
  intro v d a
  refine At.rec (motive_1 := fun v d _ => noDict d = true → At P w H' v d) (motive_2 := fun vs ds _ => noDicts ds = true → AtAll P w H' vs ds) (motive_3 := fun _ _ _ => True) (motive_4 := fun _ _ _ => True)
    (fun _ => .non) (fun b _ => .bl b) (fun i _ => .int i) (fun x _ => .str x) (fun h1 _ ih n => .lst (ne h1 fun _ _ z => nomatch z) (ih n)) (fun h1 h2 _ ih n => .tup (ne h1 fun _ _ z => nomatch z) h2 (ih n)) (fun h1 h2 _ ih n => .tupP (ne h1 fun _ _ z => nomatch z) h2 (ih n))
    (fun _ _ _ n => nomatch n) (fun _ _ _ n => nomatch n) (fun _ => .nil) (fun _ _ i1 i2 n => ?_) True.intro (fun _ _ _ _ => True.intro) True.intro (fun _ _ _ _ _ _ => True.intro) a
  rw [noDicts, Bool.and_eq_true] at n
  exact .cons (i1 n.1) (i2 n.2)
theorem alone_inv {i : Nat} (h : alone ρ i = true) : ρ.src = none ∧ ∀ (j : Nat) (s : Sl), ρ.sl[j]? = some s → s.own = true → j = i := by
  unfold alone at h
  rw [Bool.and_eq_true] at h
  refine ⟨by simpa using h.1, fun j s hj hs => ?_⟩
  have hl := (List.getElem?_eq_some_iff.mp hj).1
  have z := List.all_eq_true.mp h.2 j (List.mem_range.mpr hl)
  rw [List.getD_eq_getElem?_getD, hj] at z
  simp only [Option.getD_some, hs, Bool.not_true, Bool.or_false, decide_eq_true_eq] at z
  exact z
theorem ed_lend (i : Nat) (h : ED B X e f) : ED B X e (eLend i f) := by
  refine ⟨fun pins s σ H ρ d ρ' I r hf => ?_⟩
  obtain ⟨sl, h1, h2⟩ := bind2 hf
  cases sl with
  | dK kvs =>
    obtain ⟨⟨dd, ρ1⟩, h3, h4⟩ := bind2 h2
    obtain ⟨h5, h6⟩ := if_inv h4
    obtain ⟨rfl, rfl⟩ := pair2 h6
    rw [Bool.and_eq_true] at h5
    obtain ⟨hsrc, hal⟩ := alone_inv h5.2
    obtain ⟨q, ks, e, e1, e2⟩ := own_dK r h1
    obtain ⟨od, I1⟩ := I.lock e1 True.intro
    have ex := ext_but e1 (fun z => z) (upd_but' (o := .frz od (.dK ks)))
    have p1 : Post X.prog X.w B σ ρ (ρ.put i (.dat (kvD kvs))) H (upd H q (.frz od (.dK ks))) := r.turn h1 rfl e e1 upd_but' ⟨_, upd_same⟩ ⟨.ref q, e, .dK upd_same (e2.ext ex)⟩
    refine thn (h.run pins s σ _ _ dd ρ1 I1 p1.rep h3) fun u s2 ⟨v, H2, I2, rv, p2, a2⟩ => ?_
    have hq2 : H2 q = some (.frz od (.dK ks)) := p2.ext q _ upd_same True.intro
    have I3 := I2.unlock hq2 (I.nofrz e1 True.intro)
    have p12 := p1.trans p2
    have nq := r.new q ⟨i, _, h1, rfl, e⟩
    have ex2 : Ext H (upd H2 q (.dK ks)) := fun b o hb im => by
      have hne : b ≠ q := fun z => by
        rw [z, e1] at hb
        cases hb
        exact im
      rw [upd_ne hne]
      exact p12.ext b o hb im
    have hok : HeapOk B none (upd H2 q (.dK ks)) := by
      have z := p12.rep.hp
      have zs : ρ1.src = none := by
        rcases r.hp.src with ⟨b1, b2⟩ | ⟨x, y, S, b1, b2, b3⟩
        · rcases z.src with ⟨c1, c2⟩ | ⟨x, y, S, c1, c2, c3⟩
          · exact c2
          · rw [b1] at c1
            cases c1
        · rw [hsrc] at b2
          cases b2
      rw [zs] at z
      exact z.but hq2 nq.1 nq.2 (fun _ y => nomatch y) (.inr fun _ y => nomatch y) upd_but'
    refine ⟨v, _, I3, rv, ⟨⟨by rw [hsrc]; exact hok, r.len, fun j s hj => ?_, r.inj, r.new⟩, fun b o hb nt cc => ?_, fun b z => z, fun b z => p12.alive b (alive_but ⟨_, upd_same⟩ upd_but' b z)⟩, a2.unlock hq2 upd_but' h5.1⟩
    · have z := r.at_ j s hj
      cases s with
      | un => exact z
      | src => exact z
      | dat d => obtain ⟨v, z1, z2⟩ := z; exact ⟨v, z1, z2.ext ex2⟩
      | dK kk =>
        have ej := hal j _ hj rfl
        subst ej
        rw [h1] at hj
        cases hj
        exact ⟨q, ks, e, upd_same, e2.ext ex2⟩
      | lst kk =>
        have ej := hal j _ hj rfl
        subst ej
        rw [h1] at hj
        cases hj
      | nd kk =>
        have ej := hal j _ hj rfl
        subst ej
        rw [h1] at hj
        cases hj
    · have hne : b ≠ q := fun z => by
        subst z
        rw [e1] at hb
        cases hb
        rcases cc with cc | cc
        · exact cc
        · exact cc.1 ⟨i, _, h1, rfl, e⟩
      rw [upd_ne hne]
      exact p12.fr b o hb nt cc
  | _ => cases h2
end
end Dl
end
section
set_option Elab.async false
set_option linter.all false
set_option autoImplicit false
set_option maxRecDepth 100000
set_option maxHeartbeats 2000000
/-! RulesB: xs.index, max and min with a default, calls of defs, the defs themselves. -/
namespace Dl
open PySem PySem.Spec PyProof.Rows L2
open PySem.W (Datum DatumOrd maxOf minOf Holds max_list_datum_default min_list_datum_default)
section
variable {P : Program} {w : World} {B : Base} {H H' H1 H2 : Hp} {σ σ' : L2.St} {ρ ρ' ρ1 ρ2 : DEnv} {X : Cx} {e a b c tg : Expr} {f fa fb fc : M PyData} {t : M Bool} {g : M (List PyData)} {pins : List (Addr × Obj)} {s : Shared} {pos p : Pos}
/-! ### xs.index(x), texts -/
theorem AtAll.strs : ∀ {vs : List V} {ds : List PyData} {xs : List Str}, AtAll P w H vs ds → strsD ds = some xs → vs = xs.map V.str
  | _, _, xs, .nil, h => by
    cases Option.some.inj h
    rfl
  | _, _, xs, .cons (d := d) a r, h => by
    unfold strsD at h
    split at h
    · rename_i z
      cases z
    · rename_i z
      cases z
      obtain ⟨ys, h1, h2⟩ := bind2 h
      cases Option.some.inj h2
      rw [AtAll.strs r h1, a.str_inv]
      rfl
    · cases h
theorem find_first {xs : List Str} {x : Str} {i : Nat} (h : (xs.findIdx? fun y => decide (y = x)) = some i) : xs[i]? = some x ∧ ∀ m z, m < i → xs[m]? = some z → z ≠ x := by
  obtain ⟨h1, h2, h3⟩ := List.findIdx?_eq_some_iff_getElem.mp h
  refine ⟨?_, fun m z hm hz e => ?_⟩
  · rw [List.getElem?_eq_getElem h1]
    exact congrArg some (of_decide_eq_true h2)
  · have hz' := (List.getElem?_eq_some_iff.mp hz)
    obtain ⟨hl, hz'⟩ := hz'
    have q := h3 m hm
    rw [hz', e] at q
    simp at q
theorem ed_index {o : Expr} {apos cpos : Pos} (ha : ED B X o fa) (hb : ED B X b fb) (hbase : attributeBase o "index" X.env (eval o X.env) = eval o X.env := by rfl)
    (hfew : ((backTo cpos (starEach [b] X.env)).all (fun x => !x.1) && (backToKw cpos (keywordEach [] X.env)).all (fun x => x.1.isSome)
      && decide (([b] : List Expr).length + ([] : List Keyword).length + (if ([] : List Keyword).isEmpty then 0 else 1) < 30)) = true := by rfl)
    (hline : (apos.endLine == cpos.line) = true := by rfl) (hs : starEach [b] X.env = [(false, eval b X.env)] := by rfl) : ED B X (.Call (.Attribute o "index" apos) [b] [] cpos) (e2 idxD fa fb) := by
  refine ed_of (pe_bm PySem.F.plainAttrs_list PySem.F.slot_list_index PySem.F.type_list_index mt_index ha.pe (pa_cons hb.pe pa_nil (by rw [hs]; rfl)) hbase hfew hline (by rw [hs]; rfl) (by rfl)) fun σ H ρ d ρ' r hf => ?_
  obtain ⟨x, ρ1, y, h1, h2, h3⟩ := e2_inv hf
  unfold idxD at h3
  split at h3
  · rename_i ds z
    obtain ⟨xs, h4, h5⟩ := bind2 h3
    obtain ⟨i, h6, h7⟩ := bind2 h5
    cases Option.some.inj h7
    refine ⟨ρ, _, ρ1, r, h1, fun v H1 p1 a1 => ?_⟩
    obtain ⟨q, o, vs, rfl, g1, g2⟩ := a1.lst_inv
    refine ⟨.inl ⟨rfl, vs, .inl (.inr ⟨o, g1⟩)⟩, ρ1, _, ρ', p1.rep, h2, fun u H2 p2 a2 => ?_⟩
    have ev := g2.strs h4
    subst ev
    obtain ⟨k1, k2⟩ := find_first h6
    refine ⟨q, xs.map V.str, u, i, .str z, rfl, rfl, .inl (.inr ⟨o, p2.ext _ _ g1 True.intro⟩), ?_, ?_, ?_, ?_, fun m z' hm hz => ?_, .id ⟨p1.trans p2, .int _⟩⟩
    · rw [a2.str_inv]
      rfl
    · rw [List.all_map]
      exact List.all_eq_true.mpr fun _ _ => rfl
    · rw [List.getElem?_map, k1]
      rfl
    · rw [a2.str_inv]
      show (z == z) = true
      exact beq_self_eq_true z
    · rw [List.getElem?_map] at hz
      obtain ⟨x', hx, rfl⟩ := Option.map_eq_some_iff.mp hz
      rw [a2.str_inv]
      show (x' == z) = false
      exact beq_eq_false_iff_ne.mpr (k2 m x' hm hx)
  · cases h3
/-! ### max and min with a default -/
theorem ints_reads {h : Heap} : ∀ {ns : List Int} {us : List Value}, Vals (ns.map V.int) us → ∃ as, ReadsAll h us (ns.map Datum.toD) as
  | [], _, .nil => ⟨_, .nil⟩
  | n :: ns, _, .cons r q => by
    obtain ⟨t, e⟩ := r
    subst e
    obtain ⟨as, h2⟩ := ints_reads q
    exact ⟨_, .cons (.int n t) h2⟩
theorem maxOf_maxI : ∀ (ns : List Int) (m : Int), maxOf m ns = maxI m ns
  | [], m => rfl
  | n :: ns, m => by
    show maxOf (if DatumOrd.lt m n = true then n else m) ns = maxI (if n > m then n else m) ns
    rw [maxOf_maxI]
    congr 1
    by_cases e : m < n
    · rw [if_pos e, if_pos (show DatumOrd.lt m n = true from decide_eq_true e)]
    · rw [if_neg e, if_neg (show ¬ DatumOrd.lt m n = true from fun z => e (of_decide_eq_true z))]
theorem minOf_minI : ∀ (ns : List Int) (m : Int), minOf m ns = minI m ns
  | [], m => rfl
  | n :: ns, m => by
    show minOf (if DatumOrd.lt n m = true then n else m) ns = minI (if n < m then n else m) ns
    rw [minOf_minI]
    congr 1
    by_cases e : n < m
    · rw [if_pos e, if_pos (show DatumOrd.lt n m = true from decide_eq_true e)]
    · rw [if_neg e, if_neg (show ¬ DatumOrd.lt n m = true from fun z => e (of_decide_eq_true z))]
theorem reads_int {h : Heap} {v : Value} {n : Int} (q : Holds h v n) : ∃ t, v = .int n t := by
  obtain ⟨as, q⟩ := q
  cases q with
  | int _ t => exact ⟨t, rfl⟩
def rDf (X : Cx) (op : PyData → PyData → Option PyData) : List V → List V → Hp → VK → Prop := fun xs zs H Q => ∃ x y d e z, xs = [x] ∧ zs = [y] ∧ At X.prog X.w H x d ∧ At X.prog X.w H y e ∧ op d e = some z ∧ ∀ v, At X.prog X.w H v z → Q v H
theorem ck_max {k : Nat} (hr : Room k X.A) (hc : X.calm = true) : CallRK X (.builtin "max") [Str.ofString "default"] (rDf X maxDf) := by
  intro pins s σ H xs zs us ws Q I rx rz h
  obtain ⟨x, y, d, e, z, rfl, rfl, a1, a2, h1, q⟩ := h
  obtain ⟨u, rfl, ru⟩ := vals1 rx
  obtain ⟨w, rfl, rw'⟩ := vals1 rz
  have hu := hr.units
  unfold maxDf at h1
  split at h1
  · rename_i ds n
    obtain ⟨is, h2, h3⟩ := bind2 h1
    obtain ⟨p, o, vs, rfl, g1, g2⟩ := a1.lst_inv
    obtain rfl : u = Value.ref p := ru
    have ev := g2.ints h2
    subst ev
    obtain ⟨_, z0, its, m, rv, e0⟩ := I.hok _ _ g1
    rw [a2.int_inv] at rw'
    refine max_list_datum_default (A := X.A) (α := Int) (vs := its.toArray) (xs := is) (I.ok.hd hc) ⟨_, e0, rfl, m, rfl⟩ (by rw [List.toList_toArray]; exact ints_reads rv) (by show X.A.units + 1 + _ < _; have : Datum.depth Int = 0 := rfl; omega) (fun e h' tk hk => ?_) (fun y ys i v h' tk e hi hh hk => ?_)
    · subst e
      cases Option.some.inj h3
      exact ⟨_, H, I.kept hk, rw', q _ (.int _)⟩
    · subst e
      cases Option.some.inj h3
      obtain ⟨t, rfl⟩ := reads_int hh
      rw [maxOf_maxI]
      exact ⟨.int _, H, I.kept hk, ⟨t, rfl⟩, q _ (.int _)⟩
  · cases h1
theorem ck_min {k : Nat} (hr : Room k X.A) (hc : X.calm = true) : CallRK X (.builtin "min") [Str.ofString "default"] (rDf X minDf) := by
  intro pins s σ H xs zs us ws Q I rx rz h
  obtain ⟨x, y, d, e, z, rfl, rfl, a1, a2, h1, q⟩ := h
  obtain ⟨u, rfl, ru⟩ := vals1 rx
  obtain ⟨w, rfl, rw'⟩ := vals1 rz
  have hu := hr.units
  unfold minDf at h1
  split at h1
  · rename_i ds n
    obtain ⟨is, h2, h3⟩ := bind2 h1
    obtain ⟨p, o, vs, rfl, g1, g2⟩ := a1.lst_inv
    obtain rfl : u = Value.ref p := ru
    have ev := g2.ints h2
    subst ev
    obtain ⟨_, z0, its, m, rv, e0⟩ := I.hok _ _ g1
    rw [a2.int_inv] at rw'
    refine min_list_datum_default (A := X.A) (α := Int) (vs := its.toArray) (xs := is) (I.ok.hd hc) ⟨_, e0, rfl, m, rfl⟩ (by rw [List.toList_toArray]; exact ints_reads rv) (by show X.A.units + 1 + _ < _; have : Datum.depth Int = 0 := rfl; omega) (fun e h' tk hk => ?_) (fun y ys i v h' tk e hi hh hk => ?_)
    · subst e
      cases Option.some.inj h3
      exact ⟨_, H, I.kept hk, rw', q _ (.int _)⟩
    · subst e
      cases Option.some.inj h3
      obtain ⟨t, rfl⟩ := reads_int hh
      rw [minOf_minI]
      exact ⟨.int _, H, I.kept hk, ⟨t, rfl⟩, q _ (.int _)⟩
  · cases h1
theorem ed_df {id : String} {op : PyData → PyData → Option PyData} {x : Str} {kp : Pos} (hck : CallRK X (.builtin id) [Str.ofString "default"] (rDf X op)) (hg : Gl X x) (hm : X.mg x = none) (hv : bootBuiltins x = some (.builtin id)) (ha : ED B X a fa) (hb : ED B X b fb) (hn : x ≠ "__name__") (hdb : (x == ("__debug__" : Str)) = false)
    (hs : starEach [a] X.env = [(false, eval a X.env)]) (hall : (backToKw pos (keywordEach [⟨some "default", b, kp⟩] X.env)).all (·.1.isSome) = true) (hnone : (backToKw pos (keywordEach [⟨some "default", b, kp⟩] X.env)).any (·.1.isNone) = false) (hks : (backToKw pos (keywordEach [⟨some "default", b, kp⟩] X.env)).filterMap (·.1) = [Str.ofString "default"]) :
    ED B X (.Call (.Name x p) [a] [⟨some "default", b, kp⟩] pos) (e2 op fa fb) := by
  refine ed_of (pe_callBK hck hg hm hv (pa_cons ha.pe pa_nil (by rw [hs]; rfl)) (pk_cons hb.pe pk_nil) hn hdb (by rw [hs]; rfl) (by rw [hs]; rfl) hall hnone hks) fun σ H ρ d ρ' r hf => ?_
  obtain ⟨x, ρ1, y, h1, h2, h3⟩ := e2_inv hf
  exact ⟨ρ, x, ρ1, r, h1, fun v H1 p1 a1 => ⟨ρ1, y, ρ', p1.rep, h2, fun u H2 p2 a2 => ⟨v, u, x, y, _, rfl, rfl, a1.ext p2.ext, a2, h3, fun z az => .id ⟨p1.trans p2, az⟩⟩⟩⟩
theorem ed_maxDf {k : Nat} {kp : Pos} (hr : Room k X.A) (hm : X.mg "max" = none) (ha : ED B X a fa) (hb : ED B X b fb) (hc : X.calm = true := by rfl) (hg : Gl X "max" := by rfl) (hs : starEach [a] X.env = [(false, eval a X.env)] := by rfl)
    (hall : (backToKw pos (keywordEach [⟨some "default", b, kp⟩] X.env)).all (·.1.isSome) = true := by rfl) (hnone : (backToKw pos (keywordEach [⟨some "default", b, kp⟩] X.env)).any (·.1.isNone) = false := by rfl) (hks : (backToKw pos (keywordEach [⟨some "default", b, kp⟩] X.env)).filterMap (·.1) = [Str.ofString "default"] := by rfl) :
    ED B X (.Call (.Name "max" p) [a] [⟨some "default", b, kp⟩] pos) (e2 maxDf fa fb) := ed_df (ck_max hr hc) hg hm (by decide +kernel) ha hb (by decide) (by decide) hs hall hnone hks
theorem ed_minDf {k : Nat} {kp : Pos} (hr : Room k X.A) (hm : X.mg "min" = none) (ha : ED B X a fa) (hb : ED B X b fb) (hc : X.calm = true := by rfl) (hg : Gl X "min" := by rfl) (hs : starEach [a] X.env = [(false, eval a X.env)] := by rfl)
    (hall : (backToKw pos (keywordEach [⟨some "default", b, kp⟩] X.env)).all (·.1.isSome) = true := by rfl) (hnone : (backToKw pos (keywordEach [⟨some "default", b, kp⟩] X.env)).any (·.1.isNone) = false := by rfl) (hks : (backToKw pos (keywordEach [⟨some "default", b, kp⟩] X.env)).filterMap (·.1) = [Str.ofString "default"] := by rfl) :
    ED B X (.Call (.Name "min" p) [a] [⟨some "default", b, kp⟩] pos) (e2 minDf fa fb) := ed_df (ck_min hr hc) hg hm (by decide +kernel) ha hb (by decide) (by decide) hs hall hnone hks
/-! ### what a def promises -/
/-- all but the tables stand -/
def ExtB (T : List (Addr × Str)) (H H' : Hp) : Prop := (∀ b o, H b = some o → (T = [] ∨ ∀ ps, o ≠ .tbl ps) → H' b = some o) ∧ (∀ b, H' b = none → H b = none) ∧ LamX.Tabs T H'
def spD (P : Program) (w : World) (T : List (Addr × Str)) (n : Nat) (m : List PyData → Option PyData) : Sp := fun vs H Q _ => vs.length = n ∧ LamX.Tabs T H ∧ ∃ ds z, AtAll P w H vs ds ∧ m ds = some z ∧ ∀ v H', ExtB T H H' → At P w H' v z → Q v H'
def spS (P : Program) (w : World) (n : Nat) (m : List PyData → Src → Option (PyData × Src)) : Sp := fun vs H Q _ => vs.length = n ∧ ∃ a c S us ds z S', vs = .ref a :: us ∧ SrcAt H a c S ∧ AtAll P w H us ds ∧ m ds S = some (z, S') ∧
  ∀ v H', (∀ b o, H b = some o → b ≠ a → b ≠ c → H' b = some o) → (∀ b, H' b = none → H b = none) → SrcAt H' a c S' → At P w H' v z → Q v H'
structure DD (P : Program) (w : World) (K : PySem.W.Frag) (mg : Str → Option Value) (base : Heap) (x : Str) (k : Nat) (T : List (Addr × Str)) (n : Nat) (m : List PyData → Option PyData) : Prop where
  ex : ∃ f fd ps, FnOk P w K mg base CX0 k f fd ps (spD P w T n m) ∧ mg x = some (.ref f) ∧ PySem.W.keepIn K (.ref f) = true ∧ L2.Binds K fd ps []
  len : ∀ ds z, m ds = some z → ds.length = n
structure DS (P : Program) (w : World) (K : PySem.W.Frag) (mg : Str → Option Value) (base : Heap) (x : Str) (k : Nat) (n : Nat) (m : List PyData → Src → Option (PyData × Src)) : Prop where
  ex : ∃ f fd ps, FnOk P w K mg base CX0 k f fd ps (spS P w n m) ∧ mg x = some (.ref f) ∧ PySem.W.keepIn K (.ref f) = true ∧ L2.Binds K fd ps []
  len : ∀ ds S z, m ds S = some z → ds.length + 1 = n
theorem Post.extB {T : List (Addr × Str)} (r : Rep P w B H σ ρ) (e : ExtB T H H') (hT : T = [] ∨ T = B.T) : Post P w B σ ρ ρ H H' := by
  rcases hT with rfl | rfl
  · exact .same r fun b o h => e.1 b o h (.inl rfl)
  · obtain ⟨e1, e2, e3⟩ := e
    have ex : Ext H H' := fun b o h i => e1 b o h (.inr fun ps z => by
      rw [z] at i
      exact i)
    refine ⟨⟨⟨fun b x a n s => e1 b x (r.hp.keep b x a n s) n, fun b z => r.hp.alive b (e2 b z), e3, r.hp.src.imp id fun ⟨a, c, S, h1, h0, h2, h3⟩ => ⟨a, c, S, h1, h0, e1 _ _ h2 (.inr fun _ z => nomatch z), e1 _ _ h3 (.inr fun _ z => nomatch z)⟩⟩, r.len, fun j s h => ?_, r.inj, r.new⟩, fun b o h n _ => e1 b o h n, fun b z => z, e2⟩
    have q := r.at_ j s h
    cases s with
    | un => exact q
    | src => exact q
    | dat d => obtain ⟨v, q1, q2⟩ := q; exact ⟨v, q1, q2.ext ex⟩
    | lst ds => obtain ⟨v, xs, q1, q2, q3⟩ := q; exact ⟨v, xs, q1, e1 _ _ q2 (.inr fun _ z => nomatch z), q3.ext ex⟩
    | dK ds => obtain ⟨v, xs, q1, q2, q3⟩ := q; exact ⟨v, xs, q1, e1 _ _ q2 (.inr fun _ z => nomatch z), q3.ext ex⟩
    | nd ds => obtain ⟨v, xs, q1, q2, q3, q4⟩ := q; exact ⟨v, xs, q1, e1 _ _ q2 (.inl q4), q3.ext ex, q4⟩
theorem ed_call {x : Str} {k j n : Nat} {T : List (Addr × Str)} {m : List PyData → Option PyData} {es : List Expr} (hr : Room j X.A) (d : DD X.prog X.w X.K X.mg X.base x k T n m) (ha : AD B X (e :: es) g) (hk : k ≤ j := by decide) (hT : T = [] ∨ T = B.T := by exact .inl rfl) (hg : Gl X x := by rfl) (hdb : (x == ("__debug__" : Str)) = false := by decide)
    (he : starEach (e :: es) X.env = (false, eval e X.env) :: starEach es X.env := by rfl) (hpl : (backTo pos (starEach es X.env)).any (·.1) = false := by rfl) : ED B X (.Call (.Name x p) (e :: es) [] pos) (eCall m g) := by
  obtain ⟨f, fd, ps, F, hm, hkp, hb⟩ := d.ex
  refine ed_of (pe_call (E := E0) F (hr.mono hk) hg hm hkp hb .nil pass0 ha.pa hdb he hpl) fun σ H ρ dd ρ' r hf => ?_
  obtain ⟨⟨ds, ρ1⟩, h1, h2⟩ := bind2 hf
  obtain ⟨z, h3, h4⟩ := bind2 h2
  obtain ⟨rfl, rfl⟩ := pair2 h4
  refine ⟨ρ, ds, ρ1, r, h1, fun vs H1 p a => ?_⟩
  dsimp only
  rw [List.append_nil]
  refine ⟨by rw [a.length]; exact d.len _ _ h3, ?_, ds, z, a, h3, fun v H2 e2 av => .id ⟨p.trans (.extB p.rep e2 hT), av⟩⟩
  rcases hT with rfl | rfl
  · exact fun q hq => nomatch hq
  · exact p.rep.hp.tabs
theorem ed_callS {x y : Str} {k j n : Nat} {m : List PyData → Src → Option (PyData × Src)} {es : List Expr} {p2 : Pos} (hr : Room j X.A) (d : DS X.prog X.w X.K X.mg X.base x k n m) (i : Nat) (ha : AD B X es g) (hk : k ≤ j := by decide) (hg : Gl X x := by rfl) (hdb : (x == ("__debug__" : Str)) = false := by decide)
    (hN : X.N[i]? = some y := by rfl) (hv : Vis X.env.scope y := by first | exact Or.inl rfl | exact Or.inr (Or.inl rfl) | exact Or.inr (Or.inr rfl)) (hd : (y == ("__debug__" : Str)) = false := by decide) (hcd : (y == ("__classdict__" : Str)) = false := by decide)
    (he : starEach (.Name y p2 :: es) X.env = (false, eval (.Name y p2) X.env) :: starEach es X.env := by rfl) (hpl : (backTo pos (starEach es X.env)).any (·.1) = false := by rfl) : ED B X (.Call (.Name x p) (.Name y p2 :: es) [] pos) (eCallS i m g) := by
  obtain ⟨f, fd, ps, F, hm, hkp, hb⟩ := d.ex
  refine ed_of (pe_call (E := E0) F (hr.mono hk) hg hm hkp hb .nil pass0 (pa_cons (pe_var hN hv hd hcd) ha.pa he) hdb he hpl) fun σ H ρ dd ρ' r hf => ?_
  obtain ⟨h0, hf⟩ := if_inv hf
  obtain ⟨⟨ds, ρ1⟩, h1, h2⟩ := bind2 hf
  obtain ⟨S, h3, h4⟩ := bind2 h2
  obtain ⟨⟨z, S'⟩, h5, h6⟩ := bind2 h4
  obtain ⟨rfl, rfl⟩ := pair2 h6
  have hsl : ρ.sl[i]? = some .src := by
    unfold isS at h0
    split at h0
    · assumption
    · cases h0
  obtain ⟨a, c, hx, hσ⟩ := r.at_ i _ hsl
  refine ⟨.ref a, hσ, ρ, ds, ρ1, r, h1, fun vs H1 p av => ?_⟩
  dsimp only
  rw [List.append_nil]
  have hsr : SrcAt H1 a c S := by
    rcases p.rep.hp.src with ⟨b1, b2⟩ | ⟨a', c', S2, b1, b2, b3⟩
    · rw [b1] at hx
      cases hx
    · rw [hx] at b1
      cases b1
      rw [h3] at b2
      cases b2
      exact b3
  have ne1 : ∀ {b : Addr} {o : HO}, H1 b = some o → (∀ kvs, o ≠ .dK kvs) → (∀ xs, o ≠ .lst xs) → b ≠ a ∧ b ≠ c := fun {b o} hb n1 n2 => by
    refine ⟨fun z => ?_, fun z => ?_⟩
    · rw [z, hsr.1] at hb
      exact n1 _ (Option.some.inj hb).symm
    · rw [z, hsr.2] at hb
      exact n2 _ (Option.some.inj hb).symm
  refine ⟨?_, a, c, S, vs, ds, z, S', rfl, hsr, av, h5, fun v H2 e1 al hs2 az => .id ⟨p.trans ?_, az⟩⟩
  · rw [List.length_cons, av.length]
    exact d.len _ _ _ h5
  -- the source is another; all else stands
  have ex : Ext H1 H2 := fun b o hb im => by
    obtain ⟨n1, n2⟩ := ne1 hb (fun kvs z => by rw [z] at im; exact im) (fun xs z => by rw [z] at im; exact im)
    exact e1 b o hb n1 n2
  have nsrc : ∀ {b : Addr}, ¬ B.src b → b ≠ a ∧ b ≠ c := fun {b} n => ⟨fun z => n ⟨a, c, hx, .inl z⟩, fun z => n ⟨a, c, hx, .inr z⟩⟩
  have q := p.rep
  refine ⟨⟨⟨fun b x hb nt ns => e1 b x (q.hp.keep b x hb nt ns) (nsrc ns).1 (nsrc ns).2, fun b y => q.hp.alive b (al b y), fun pq hpq => ?_, .inr ⟨a, c, S', hx, rfl, hs2⟩⟩, q.len, fun j s hj => ?_, q.inj, q.new⟩, fun b o hb nt cc => ?_, fun b y => y, al⟩
  · obtain ⟨ps, t1, t2, t3⟩ := q.hp.tabs pq hpq
    obtain ⟨n1, n2⟩ := ne1 t1 (fun _ z => nomatch z) (fun _ z => nomatch z)
    refine ⟨ps, e1 _ _ t1 n1 n2, t2, fun pos cv hcv => ?_⟩
    obtain ⟨c0, u1, u2⟩ := t3 pos cv hcv
    obtain ⟨n1, n2⟩ := ne1 u2 (fun _ z => nomatch z) (fun _ z => nomatch z)
    exact ⟨c0, u1, e1 _ _ u2 n1 n2⟩
  · have hs := q.at_ j s hj
    have own : s.own = true → ∀ b, σ[j]? = some (some (.ref b)) → b ≠ a ∧ b ≠ c := fun o b hb => nsrc (q.new b ⟨j, s, hj, o, hb⟩).2
    cases s with
    | un => exact hs
    | src => exact hs
    | dat d => obtain ⟨v, q1, q2⟩ := hs; exact ⟨v, q1, q2.ext ex⟩
    | lst ds => obtain ⟨v, xs, q1, q2, q3⟩ := hs; exact ⟨v, xs, q1, e1 _ _ q2 (own rfl v q1).1 (own rfl v q1).2, q3.ext ex⟩
    | dK ds => obtain ⟨v, xs, q1, q2, q3⟩ := hs; exact ⟨v, xs, q1, e1 _ _ q2 (own rfl v q1).1 (own rfl v q1).2, q3.ext ex⟩
    | nd ds => obtain ⟨v, xs, q1, q2, q3, q4⟩ := hs; exact ⟨v, xs, q1, e1 _ _ q2 (own rfl v q1).1 (own rfl v q1).2, q3.ext ex, q4⟩
  · rcases cc with im | ⟨_, ns⟩
    · exact ex b o hb im
    · exact e1 b o hb (nsrc ns).1 (nsrc ns).2
/-! ### a def by its body -/
theorem start_rep {T : List (Addr × Str)} {N : List Str} {vs : List V} {ds : List PyData} (hT : LamX.Tabs T H) (a : AtAll P w H vs ds) (hl : ds.length ≤ N.length) : Rep P w ⟨H, none, T⟩ H (L2.start N vs) (startE N.length (ds.map .dat) none) := by
  have key : ∀ (i : Nat) (s : Sl), (startE N.length (ds.map .dat) none).sl[i]? = some s → (∃ d v, s = .dat d ∧ (L2.start N vs)[i]? = some (some v) ∧ At P w H v d) ∨ s = .un := fun i s h => by
    have h : (ds.map Sl.dat ++ List.replicate (N.length - (ds.map Sl.dat).length) Sl.un)[i]? = some s := h
    by_cases hi : i < ds.length
    · rw [List.getElem?_append_left (by rw [List.length_map]; exact hi), List.getElem?_map, List.getElem?_eq_getElem hi] at h
      have e := Option.some.inj h
      obtain ⟨v, h1, h2⟩ := a.get (List.getElem?_eq_getElem hi)
      refine .inl ⟨ds[i], v, e.symm, ?_, h2⟩
      unfold L2.start
      rw [List.getElem?_append_left (by rw [List.length_map]; exact (List.getElem?_eq_some_iff.mp h1).1), List.getElem?_map, h1]
      rfl
    · rw [List.getElem?_append_right (by rw [List.length_map]; omega)] at h
      exact .inr (List.eq_of_mem_replicate (List.mem_of_getElem? h))
  refine ⟨⟨fun b x h _ _ => h, fun b h => h, hT, .inl ⟨rfl, rfl⟩⟩, ?_, fun i s h => ?_, fun i j s t b h1 h2 => ?_, fun b ⟨i, s, h1, h2, _⟩ => ?_⟩
  · show (ds.map Sl.dat ++ List.replicate _ Sl.un).length = (vs.map some ++ List.replicate _ _).length
    rw [List.length_append, List.length_append, List.length_map, List.length_map, List.length_replicate, List.length_replicate, a.length]
  · rcases key i s h with ⟨d, v, rfl, h1, h2⟩ | rfl
    · exact ⟨v, h1, h2⟩
    · exact True.intro
  · rcases key i s h1 with ⟨d, v, rfl, _⟩ | rfl <;> cases h2
  · rcases key i s h1 with ⟨d, v, rfl, _⟩ | rfl <;> cases h2
theorem start_own {N : List Str} {vs : List V} {ds : List PyData} {S : Option Src} {b : Addr} {pre : List Sl} (hpre : ∀ s ∈ pre, s.own = false) : ¬ Own σ (startE N.length (pre ++ ds.map .dat) S) b := by
  rintro ⟨i, s, h1, h2, _⟩
  have h1 : ((pre ++ ds.map Sl.dat) ++ List.replicate (N.length - (pre ++ ds.map Sl.dat).length) Sl.un)[i]? = some s := h1
  rcases List.mem_append.mp (List.mem_of_getElem? h1) with h | h
  · rcases List.mem_append.mp h with h | h
    · rw [hpre s h] at h2
      cases h2
    · obtain ⟨d, _, rfl⟩ := List.mem_map.mp h
      cases h2
  · rw [List.eq_of_mem_replicate h] at h2
    cases h2
/-- the walk of a def's body from data to data -/
theorem body_ok {T : List (Addr × Str)} {N : List Str} {vs : List V} {n : Nat} {gb : G} {sts : List Stmt} {Q : VK} {E : XK} (der : SDs ⟨H, none, T⟩ X.nox sts gb) (hn : n ≤ N.length) (h : spD X.prog X.w T n (runF n N.length gb) vs H Q E) :
    PSs X sts (tSD ⟨H, none, T⟩ X gb) ∧ tSD ⟨H, none, T⟩ X gb { nx := fun _ H' => Q .non H', rt := Q } (L2.start N vs) H := by
  refine ⟨PSs.nox (t := tSD ⟨H, none, T⟩ X gb) der.pss, ?_⟩
  obtain ⟨hl, hT, ds, z, a, hm, k⟩ := h
  unfold runF at hm
  obtain ⟨he, hm⟩ : ds.length = n ∧ ((gb (startE N.length (ds.map .dat) none)).bind fun p => match p.1 with
    | .ret d => some d
    | _ => none) = some z := by
    by_cases e : ds.length = n
    · rw [if_pos e] at hm
      exact ⟨e, hm⟩
    · rw [if_neg e] at hm
      cases hm
  obtain ⟨⟨fl, ρ'⟩, h1, h2⟩ := bind2 hm
  cases fl with
  | ret d =>
    cases Option.some.inj h2
    have rp : Rep X.prog X.w ⟨H, none, T⟩ H (L2.start N vs) (startE N.length (ds.map .dat) none) := start_rep hT a (by omega)
    refine ⟨_, _, ρ', rp, h1, fun _ _ h => h.elim, fun v H' ⟨q1, q2, q3, q4⟩ => k v H' ⟨fun b o hb hc => q2 b o hb hc (.inr ⟨?_, fun ⟨x, y, z, _⟩ => nomatch z⟩), q3, q1.tabs⟩ q4, fun _ _ h => h.elim, fun _ _ h => h.elim⟩
    exact start_own (vs := vs) (pre := []) (fun s hs => nomatch hs)
  | _ => cases h2
theorem start_repS {a c : Addr} {S : Src} {N : List Str} {us : List V} {ds : List PyData} (hs : SrcAt H a c S) (av : AtAll P w H us ds) (hl : ds.length + 1 ≤ N.length) : Rep P w ⟨H, some (a, c), []⟩ H (L2.start N (.ref a :: us)) (startE N.length (.src :: ds.map .dat) (some S)) := by
  have key : ∀ (i : Nat) (s : Sl), (startE N.length (.src :: ds.map .dat) (some S)).sl[i]? = some s → (∃ d v, s = .dat d ∧ (L2.start N (.ref a :: us))[i]? = some (some v) ∧ At P w H v d) ∨ s = .un ∨ (s = .src ∧ (L2.start N (.ref a :: us))[i]? = some (some (.ref a))) := fun i s h => by
    have h : ((Sl.src :: ds.map Sl.dat) ++ List.replicate (N.length - (Sl.src :: ds.map Sl.dat).length) Sl.un)[i]? = some s := h
    cases i with
    | zero =>
      cases Option.some.inj h
      exact .inr (.inr ⟨rfl, rfl⟩)
    | succ i =>
      by_cases hi : i < ds.length
      · rw [List.getElem?_append_left (by rw [List.length_cons, List.length_map]; omega), List.getElem?_cons_succ, List.getElem?_map, List.getElem?_eq_getElem hi] at h
        have e := Option.some.inj h
        obtain ⟨v, h1, h2⟩ := av.get (List.getElem?_eq_getElem hi)
        refine .inl ⟨ds[i], v, e.symm, ?_, h2⟩
        unfold L2.start
        rw [List.map_cons, List.getElem?_append_left (by rw [List.length_cons, List.length_map]; have := (List.getElem?_eq_some_iff.mp h1).1; omega), List.getElem?_cons_succ, List.getElem?_map, h1]
        rfl
      · rw [List.getElem?_append_right (by rw [List.length_cons, List.length_map]; omega)] at h
        exact .inr (.inl (List.eq_of_mem_replicate (List.mem_of_getElem? h)))
  refine ⟨⟨fun b x h _ _ => h, fun b h => h, (fun q hq => nomatch hq), .inr ⟨a, c, S, rfl, rfl, hs⟩⟩, ?_, fun i s h => ?_, fun i j s t b h1 h2 => ?_, fun b ⟨i, s, h1, h2, _⟩ => ?_⟩
  · show ((Sl.src :: ds.map Sl.dat) ++ List.replicate _ Sl.un).length = ((V.ref a :: us).map some ++ List.replicate _ _).length
    simp [av.length]
  · rcases key i s h with ⟨d, v, rfl, h1, h2⟩ | rfl | ⟨rfl, h1⟩
    · exact ⟨v, h1, h2⟩
    · exact True.intro
    · exact ⟨a, c, rfl, h1⟩
  · rcases key i s h1 with ⟨d, v, rfl, _⟩ | rfl | ⟨rfl, _⟩ <;> cases h2
  · rcases key i s h1 with ⟨d, v, rfl, _⟩ | rfl | ⟨rfl, _⟩ <;> cases h2
theorem body_okS {N : List Str} {vs : List V} {n : Nat} {gb : G} {sts : List Stmt} {Q : VK} {E : XK} (der : ∀ sx, SDs ⟨H, some sx, []⟩ X.nox sts gb) (hn : n ≤ N.length) (h : spS X.prog X.w n (runS n N.length gb) vs H Q E) :
    ∃ t, PSs X sts t ∧ t { nx := fun _ H' => Q .non H', rt := Q } (L2.start N vs) H := by
  obtain ⟨hl, a, c, S, us, ds, z, S', rfl, hs, av, hm, k⟩ := h
  refine ⟨tSD ⟨H, some (a, c), []⟩ X gb, PSs.nox (t := tSD ⟨H, some (a, c), []⟩ X gb) (der (a, c)).pss, ?_⟩
  unfold runS at hm
  obtain ⟨he, hm⟩ : ds.length + 1 = n ∧ ((gb (startE N.length (.src :: ds.map .dat) (some S))).bind fun p => match p.1 with
    | .ret d => p.2.src.bind fun S' => some (d, S')
    | _ => none) = some (z, S') := by
    by_cases e : ds.length + 1 = n
    · rw [if_pos e] at hm
      exact ⟨e, hm⟩
    · rw [if_neg e] at hm
      cases hm
  obtain ⟨⟨fl, ρ'⟩, h1, h2⟩ := bind2 hm
  cases fl with
  | ret d =>
    obtain ⟨S2, h3, h4⟩ := bind2 h2
    obtain ⟨rfl, rfl⟩ := pair2 h4
    have rp : Rep X.prog X.w ⟨H, some (a, c), []⟩ H (L2.start N (.ref a :: us)) (startE N.length (.src :: ds.map .dat) (some S)) := start_repS hs av (by omega)
    refine ⟨_, _, ρ', rp, h1, fun _ _ h => h.elim, fun v H' ⟨q1, q2, q3, q4⟩ => k v H' (fun b o hb n1 n2 => q2 b o hb (.inl rfl) (.inr ⟨?_, fun ⟨x, y, z, zz⟩ => ?_⟩)) q3 ?_ q4, fun _ _ h => h.elim, fun _ _ h => h.elim⟩
    · exact start_own (vs := us) (pre := [.src]) (fun s hs => by rw [List.mem_singleton.mp hs]; rfl)
    · cases z
      exact zz.elim n1 n2
    · rcases q1.src with ⟨b1, _⟩ | ⟨a', c', S3, b1, b2, b3⟩
      · cases b1
      · cases b1
        have h3 : ρ'.src = some S2 := h3
        rw [h3] at b2
        cases b2
        exact b3
  | _ => cases h2
theorem runF_len {ar n : Nat} {gb : G} : ∀ ds z, runF ar n gb ds = some z → ds.length = ar := fun ds z h => by
  unfold runF at h
  by_cases e : ds.length = ar
  · exact e
  · rw [if_neg e] at h
    cases h
theorem runS_len {ar n : Nat} {gb : G} : ∀ ds S z, runS ar n gb ds S = some z → ds.length + 1 = ar := fun ds S z h => by
  unfold runS at h
  by_cases e : ds.length + 1 = ar
  · exact e
  · rw [if_neg e] at h
    cases h
end
end Dl
end
section
set_option Elab.async false
set_option linter.all false
set_option autoImplicit false
set_option maxRecDepth 100000
set_option maxHeartbeats 2000000
/-! RulesC: the text's defs, the built-ins' names. -/
namespace Dl
open PySem PySem.Spec PyProof.Rows L2
def top (i : Nat) : Stmt := PySem.Challenge.pw_oncestream_k66_whole_sums_in_two_steps.main.body.getD i (.Pass ⟨0, 0, 0, 0⟩)
abbrev FnP (K : PySem.W.Frag) (x : Str) (st : Stmt) (f : Addr) (fd : FuncData) : Prop := FunD K x x (defArgs st) (defBody st) (defScope st) [] [] f fd
structure Bt (mg : Str → Option Value) : Prop where
  len : mg "len" = none
  sum : mg "sum" = none
  all : mg "all" = none
  tuple : mg "tuple" = none
  int : mg "int" = none
  dict : mg "dict" = none
  max : mg "max" = none
  min : mg "min" = none
  isinstance : mg "isinstance" = none
  str : mg "str" = none
  range : mg "range" = none
  enumerate : mg "enumerate" = none
  list : mg "list" = none
  sorted : mg "sorted" = none
  set : mg "set" = none
  abs : mg "abs" = none
  END : ∃ t, mg "END" = some (.int 1000000000 t)
end Dl
end
section
set_option Elab.async false
set_option linter.all false
set_option autoImplicit false
set_option maxRecDepth 100000
set_option maxHeartbeats 2000000
/-! RulesD: sorted(xs, key=f), f a def of the program. -/
namespace Dl
open PySem PySem.Spec PyProof.Rows L2
open PySem.W (EachIs KeyedOut AllAlike Sortable)
section
variable {P : Program} {w : World} {B : Base} {H H' H1 H2 : Hp} {σ : L2.St} {ρ ρ' ρ1 ρ2 : DEnv} {X : Cx} {pins : List (Addr × Obj)} {s : Shared}
/-- a thing of ours becomes known -/
theorem Inv.adopt {h' : Heap} {t' : Nat} {ch : List Addr} {T : Addr} {ob : HO} (I : Inv X pins σ H s) (k : ∀ b o, b ∉ ch → s.heap.get? b = some o → h'.get? b = some o) (hf : ∀ b ∈ ch, FpOk X pins H b) (hT : T ∈ ch)
    (new : ObjOk X.prog X.w (upd H T ob) h' T ob) : Inv X pins σ (upd H T ob) { s with heap := h', toks := t' } := by
  have hn : H T = none := (hf T hT).1
  have nit : ∀ b u, H b = some u → b ∉ ch := fun b u e z => by
    rw [(hf b z).1] at e
    cases e
  have neT : ∀ b, b ∉ ch → b ≠ T := fun b n z => n (by rw [z]; exact hT)
  refine I.step (g' := s.gens) (d' := s.drawn) (ch := ch) (fun b hb => ⟨(hf b hb).2.2.2.1, (hf b hb).2.1, (hf b hb).2.2.2.2.1, (hf b hb).2.2.2.2.2⟩) (fun b o _ _ hc e _ => k b o hc e) (fun b o _ _ hc e _ => ⟨o.slots, k b o hc e⟩)
    (fun b o hc e n => ?_) (fun b o hc e => ⟨o, k b o hc e⟩) (fun b xs e => ?_) (fun b o u e => ?_) (fun b ps e => ⟨#[], ?_⟩) (fun m hm => ?_) (fun b u e => ?_) I.bare
  · rw [upd_ne (neT b hc)]; exact n
  · rw [upd_ne (ne_of_none e hn)]; exact e
  · rw [upd_ne (ne_of_none e hn)]; exact e
  · rw [upd_ne (ne_of_none e hn), e]; simp
  · obtain ⟨o, es, ep, ho, r⟩ := hm
    exact ⟨o, es, ep, k _ o (fun z => (hf _ z).2.1 rfl) ho, r⟩
  · by_cases hb : b = T
    · subst hb
      rw [upd_same] at e
      cases e
      exact new
    · rw [upd_ne hb] at e
      refine (I.hok b u e).stay (fun c v hc q => k c v ?_ q) (fun c q => by rw [upd_ne (ne_of_none q hn)]; exact q) fun c xs q => by rw [upd_ne (ne_of_none q hn)]; exact q
      rcases hc with z | z
      · rw [z]; exact nit b u e
      · exact nit c _ z
mutual
/-- keys read off the heap -/
theorem key_reads (I : Inv X pins σ H s) : ∀ {v : V} {d : PyData} {u : Value} {k : NestedKey}, At X.prog X.w H v d → RelV v u → toK d = some k → ∃ as, Reads s.heap u d as
  | _, _, _, _, .non, r, h => by
    cases r
    exact ⟨_, .none⟩
  | _, _, _, _, .bl b, r, h => by cases h
  | _, _, _, _, .int i, r, h => by
    obtain ⟨t, rfl⟩ := r
    exact ⟨_, .int i t⟩
  | _, _, _, _, .str x, r, h => by
    obtain ⟨t, rfl⟩ := r
    exact ⟨_, .str x t⟩
  | _, _, _, _, .lst _ _, r, h => by cases h
  | _, _, _, _, .tup h1 _ h2, r, h => by
    cases r
    obtain ⟨ks, h3, h4⟩ := bind2 h
    obtain ⟨_, its, rv, o, e1, e2, n, e3⟩ := I.hok _ _ h1
    obtain ⟨as, q⟩ := keys_reads I h2 rv h3
    exact ⟨_, .tuple e1 e2 e3 (by simpa using q)⟩
  | _, _, _, _, .tupP h1 _ h2, r, h => by
    cases r
    obtain ⟨ks, h3, h4⟩ := bind2 h
    obtain ⟨_, _, its, rv, o, e1, e2, n, e3⟩ := I.hok _ _ h1
    obtain ⟨as, q⟩ := keys_reads I h2 rv h3
    exact ⟨_, .tuple e1 e2 e3 (by simpa using q)⟩
  | _, _, _, _, .dK _ _, r, h => by cases h
  | _, _, _, _, .nd _ _, r, h => by cases h
theorem keys_reads (I : Inv X pins σ H s) : ∀ {vs : List V} {ds : List PyData} {us : List Value} {ks : List NestedKey}, AtAll X.prog X.w H vs ds → Vals vs us → toKs ds = some ks → ∃ as, ReadsAll s.heap us ds as
  | _, _, _, _, .nil, r, h => by
    cases r
    exact ⟨_, .nil⟩
  | _, _, _, _, .cons a q, r, h => by
    cases r with
    | cons r1 r2 =>
      obtain ⟨k, h1, h2⟩ := bind2 h
      obtain ⟨ks, h3, h4⟩ := bind2 h2
      obtain ⟨as, q1⟩ := key_reads I a r1 h1
      obtain ⟨bs, q2⟩ := keys_reads I q r2 h3
      exact ⟨_, .cons q1 q2⟩
end
theorem each_reads (I : Inv X pins σ H s) : ∀ {vs : List V} {ds : List PyData} {us : List Value}, AtAll X.prog X.w H vs ds → Vals vs us → (∀ d ∈ ds, (toK d).isSome = true) → EachIs (fun v k => ∃ as, Reads s.heap v k as) us ds
  | _, _, _, .nil, r, h => by
    cases r
    exact .nil
  | _, _, _, .cons (d := d) a q, r, h => by
    cases r with
    | cons r1 r2 =>
      obtain ⟨k, hk⟩ := Option.isSome_iff_exists.mp (h d List.mem_cons_self)
      exact .cons (key_reads I a r1 hk) (each_reads I q r2 fun x hx => h x (List.mem_cons_of_mem _ hx))
theorem alikeOk_inv {ks : List PyData} (h : alikeOk ks = true) : AllAlike ks ∧ Sortable ks ∧ (∀ d ∈ ks, d.depth ≤ 60) ∧ ∀ d ∈ ks, (toK d).isSome = true := by
  unfold alikeOk at h
  simp only [Bool.and_eq_true] at h
  obtain ⟨⟨h1, h2⟩, h3⟩ := h
  refine ⟨fun d hd e he => List.all_eq_true.mp (List.all_eq_true.mp h1 d hd) e he, .inl fun d hd => ?_, fun d hd => ?_, fun d hd => ?_⟩
  · have z := List.all_eq_true.mp h2 d hd
    split at z
    · exact ⟨_, _, rfl⟩
    · cases z
  · have z := List.all_eq_true.mp h3 d hd
    rw [Bool.and_eq_true] at z
    exact of_decide_eq_true z.1
  · have z := List.all_eq_true.mp h3 d hd
    rw [Bool.and_eq_true] at z
    exact z.2
/-- what a key's call must give, from any state with the same things known -/
def KTurn (X : Cx) (pins : List (Addr × Obj)) (σ : L2.St) (A : Around) (f : Value) (H0 : Hp) (m : List PyData → Option PyData) : Prop :=
  ∀ (pl : List (Addr × Obj)) (s : Shared) (H : Hp) (v : V) (u : Value) (d k : PyData), Inv X (pins ++ pl) σ H s → Same H0 H → RelV v u → At X.prog X.w H v d → m [d] = some k →
    wpAny (model X.prog X.w) A (call f [u]) (EP X (pins ++ pl) σ fun y H' => Same H H' ∧ At X.prog X.w H' y k) (fun _ _ => False) s
theorem keysD_get {m : List PyData → Option PyData} : ∀ {ds ks : List PyData}, keysD m ds = some ks → ks.length = ds.length ∧ ∀ (i : Nat) (d : PyData), ds[i]? = some d → ∃ k, ks[i]? = some k ∧ m [d] = some k
  | [], ks, h => by
    cases Option.some.inj h
    exact ⟨rfl, fun i d z => by simp at z⟩
  | d :: ds, ks, h => by
    obtain ⟨k, h1, h2⟩ := bind2 h
    obtain ⟨ls, h3, h4⟩ := bind2 h2
    cases Option.some.inj h4
    obtain ⟨g1, g2⟩ := keysD_get h3
    refine ⟨by rw [List.length_cons, List.length_cons, g1], fun i e z => ?_⟩
    cases i with
    | zero =>
      cases Option.some.inj z
      exact ⟨k, rfl, h1⟩
    | succ i => exact g2 i e z
theorem same_all {vs : List V} {ds : List PyData} (a : AtAll P w H vs ds) (e : Same H H') : AtAll P w H' vs ds := a.ext (.of e)
theorem AtAll.snoc_take {ys : List V} {ks : List PyData} {j : Nat} {y : V} {k : PyData} (a : AtAll P w H ys (ks.take j)) (h : ks[j]? = some k) (ay : At P w H y k) : AtAll P w H (ys ++ [y]) (ks.take (j + 1)) := by
  have e : ks.take (j + 1) = ks.take j ++ [k] := by rw [List.take_add_one, h]; rfl
  rw [e]
  exact a.snoc ay
theorem pin_two {a kS : Addr} {oa ok : Obj} (I : Inv X pins σ H s) (fa : FpOk X pins H a) (fk : FpOk X pins H kS) (ha : s.heap.get? a = some oa) (hk : s.heap.get? kS = some ok) (da : ∀ v, oa.data ≠ .cell v) (dk : ∀ v, ok.data ≠ .cell v) : Inv X (pins ++ [(a, oa), (kS, ok)]) σ H s :=
  I.pins_of fun p hp => (List.mem_append.mp hp).elim (fun z => I.pin p (List.mem_append_right _ z)) fun z => by
    rcases List.mem_cons.mp z with e | z
    · rw [e]
      exact ⟨ha, fa.1, fa.2.1, fa.2.2.1, da⟩
    · rw [List.mem_singleton.mp z]
      exact ⟨hk, fk.1, fk.2.1, fk.2.2.1, dk⟩
theorem sk_rest {A : Around} {f : Value} {a kS : Addr} {e1 : Nat} {vs : List Value} {xs : List V} {ds ks : List PyData} {m : List PyData → Option PyData} {E : Value → Shared → Prop} {Pf : PySem.Fin → Shared → Prop} (I : Inv X pins σ H s) (fa : FpOk X pins H a) (fk : FpOk X pins H kS) (hka : kS ≠ a)
    (ha : s.heap.get? a = some (seqObj "list" #[] e1)) (hk : s.heap.get? kS = some (seqObj "list" #[] 0)) (rv : Vals xs vs) (ax : AtAll X.prog X.w H xs ds) (hks : keysD m ds = some ks) (hal : alikeOk ks = true) (hz : vs.length ≤ sizeLine) (hu : A.units + 60 < cLine) (turn : KTurn X pins σ A f H m)
    (h : ∀ s' H' out c, Inv X pins σ H' s' → Same H H' → H' a = none → s'.heap.get? a = some (seqObj "list" (List.toArray out) c) → FpOk X pins H' a → KeyedOut false ks vs out → Pf (.done (.ret .none)) s') :
    wpAny (model X.prog X.w) A (PyProof.Rows.ksk_rest a f false vs.toArray e1 (.ref kS)) Pf E s := by
  obtain ⟨al1, al2, al3, al4⟩ := alikeOk_inv hal
  obtain ⟨kl, kg⟩ := keysD_get hks
  have lv : vs.length = ds.length := by rw [← rv.length, ax.length]
  unfold PyProof.Rows.ksk_rest
  refine wpAny_bind (wpAny_rule ?_)
  first
    | rw [List.forIn_toArray]
    | (rw [← Array.forIn_toList]; simp only [List.toList_toArray])
    | rw [← Array.forIn_toList]
  refine wpAny_bind (PyProof.Rows.ksk_fold (fun i s' => ∃ H' kA e ys, Inv X (pins ++ [(a, seqObj "list" #[] e1), (kS, seqObj "list" kA e)]) σ H' s' ∧ Same H H' ∧ Vals ys kA.toList ∧ AtAll X.prog X.w H' ys (ks.take i)) vs 0 s
    ⟨H, #[], 0, [], pin_two I fa fk ha hk (fun v z => nomatch z) (fun v z => nomatch z), .refl H, .nil, by rw [List.take_zero]; exact .nil⟩ ?step ?done)
  case step =>
    rintro j u s' hx ⟨H', kA, e, ys, I', sm, ry, ay⟩
    simp only [Nat.zero_add] at ay ⊢
    have hj : j < vs.length := (List.getElem?_eq_some_iff.mp hx).1
    have hdj : ds[j]? = some (ds[j]'(by omega)) := List.getElem?_eq_getElem (by omega)
    obtain ⟨v, hv, av⟩ := ax.get hdj
    obtain ⟨u', hu', rvu⟩ := rv.get hv
    rw [hx] at hu'
    cases Option.some.inj hu'
    obtain ⟨k, hk1, hk2⟩ := kg j _ hdj
    refine wpAny_bind (wpAny_attempt (wpAny_mono (turn _ s' H' v u _ k I' sm rvu (av.ext (.of sm)) hk2) (fun y s'' he => ?_) fun _ _ hF => hF.elim))
    obtain ⟨yv, H'', I'', ryv, sm2, ak⟩ := he
    try dsimp only
    have mem_a : (a, seqObj "list" #[] e1) ∈ pins ++ [(a, seqObj "list" #[] e1), (kS, seqObj "list" kA e)] := List.mem_append_right _ (.head _)
    have mem_k : (kS, seqObj "list" kA e) ∈ pins ++ [(a, seqObj "list" #[] e1), (kS, seqObj "list" kA e)] := List.mem_append_right _ (.tail _ (.head _))
    obtain ⟨na, na0, _⟩ := I''.pin _ (List.mem_append_right _ mem_a)
    obtain ⟨nk, nk0, _⟩ := I''.pin _ (List.mem_append_right _ mem_k)
    have hkz : kA.size ≤ vs.length := by
      have h1 : ys.length = kA.size := by rw [Paired.length ry]; exact Array.length_toList
      have h2 := ay.length
      rw [List.length_take] at h2
      omega
    have s1 := Heap.SameBut.update s''.heap kS (Obj.mapSeq (·.push y))
    obtain ⟨c2, hc2⟩ : ∃ c2, (s''.heap.update kS (Obj.mapSeq (·.push y))).get? kS = some (seqObj "list" (kA.push y) c2) := ⟨_, get?_update_seq nk (·.push y)⟩
    refine wpAny_bind (listUpdate_at nk rfl ?_ (Nat.le_trans hkz hz) (Nat.le_trans (Nat.le_of_eq (Array.size_push ..)) (Nat.succ_le_succ (Nat.le_trans hkz hz))))
    refine wpAny_pure ⟨rfl, H'', kA.push y, c2, ys ++ [yv], ?_, sm.trans sm2, ?_, (ay.ext (.of sm2)).snoc_take hk1 ak⟩
    · have J := (Inv.unpinned I'').turnedL (t' := s''.toks) (h' := s''.heap.update kS (Obj.mapSeq (·.push y))) (ch := [kS]) (fun b o hb q => (s1.2 b (by simpa using hb)).trans q) (fun b hb => by
        rw [List.mem_singleton.mp hb]
        exact ⟨nk0, fk.2⟩)
      exact pin_two J ⟨na0, fa.2⟩ ⟨nk0, fk.2⟩ ((s1.2 a hka.symm).trans na) hc2 (fun v z => nomatch z) (fun v z => nomatch z)
    · rw [Array.toList_push]
      exact ry.append (.cons ryv .nil)
  case done =>
    rintro s' ⟨H', kA, e, ys, I', sm, ry, ay⟩
    have e3 : ks.take (0 + vs.length) = ks := List.take_of_length_le (by omega)
    rw [e3] at ay
    have mem_a : (a, seqObj "list" #[] e1) ∈ pins ++ [(a, seqObj "list" #[] e1), (kS, seqObj "list" kA e)] := List.mem_append_right _ (.head _)
    have mem_k : (kS, seqObj "list" kA e) ∈ pins ++ [(a, seqObj "list" #[] e1), (kS, seqObj "list" kA e)] := List.mem_append_right _ (.tail _ (.head _))
    obtain ⟨na, na0, _⟩ := I'.pin _ (List.mem_append_right _ mem_a)
    obtain ⟨nk, nk0, _⟩ := I'.pin _ (List.mem_append_right _ mem_k)
    have J := Inv.unpinned I'
    have hsz : kA.size = vs.length := by
      have h1 : ys.length = kA.size := by rw [Paired.length ry]; exact Array.length_toList
      have h2 := ay.length
      omega
    have er := each_reads I' ay ry al4
    obtain ⟨G, g1, g2⟩ := L2.restrict s'.heap fun b => decide (b ≠ kS)
    try dsimp only
    refine wpAny_bind (listItems_at nk rfl ?_)
    have kp : PySem.W.KeepsBut a G s'.heap := fun b o _ q => by
      by_cases hb : b = kS
      · rw [g2 b (by simp [hb])] at q
        cases q
      · rw [← g1 b (by simp [hb])]
        exact q
    refine PySem.W.keyH_end (κ := PySem.W.dataKind s'.heap ks) (h₁ := G) kp (g2 kS (by simp)) nk na hka (PySem.W.SortsAt.data (s := s') er al1 al2 fun d hd => by have := al3 d hd; omega) hsz hz fun h3 tk3 c k3 n3 => ?_
    refine h _ H' _ c (J.turnedL (h' := h3) (t' := tk3) (ch := [a, kS]) (fun b o hb q => k3 b o (fun z => hb (by simp [z])) ?_) (fun b hb => ?_)) sm na0 n3 ⟨na0, fa.2⟩ ⟨s'.heap, kA.toList, al1, rfl, er⟩
    · rw [g1 b (by
        simp only [List.mem_cons, List.mem_nil_iff, or_false, not_or] at hb
        simp [hb.2])]
      exact q
    · rcases List.mem_cons.mp hb with e | hb
      · rw [e]
        exact ⟨na0, fa.2⟩
      · rw [List.mem_singleton.mp hb]
        exact ⟨nk0, fk.2⟩
/-- sorted(xs, key=f) -/
theorem sorted_keyI {f q : Addr} {o : Obj} {xs : List V} {ds ks : List PyData} {m : List PyData → Option PyData} {Q : VK} (I : Inv X pins σ H s) (hq : SqL X.K H q xs) (ax : AtAll X.prog X.w H xs ds) (hks : keysD m ds = some ks) (hal : alikeOk ks = true) (hu : X.A.units + 64 < cLine) (turn : KTurn X pins σ X.A.in1.in1 (.ref f) H m)
    (k : ∀ D ys H', Same H H' → H D = none → H' D = some (.lst ys) → AtAll X.prog X.w H' ys (((ds.zip ks).mergeSort (PySem.W.dataLe false fun q => q.2)).map (·.1)) → Q (.ref D) H') :
    wpAny (model X.prog X.w) X.A (call (.builtin "sorted") [.ref q] [(Str.ofString "key", .ref f)]) (EP X pins σ Q) X.xe s := by
  obtain ⟨vs, rv, pl, hz⟩ := I.list hq
  have hzv : vs.length ≤ sizeLine := by rw [← rv.length]; exact hz
  refine PySem.W.sorted_of_sort pl.isList hzv (PyProof.Rows.ksk_s1 _ _) (fun x => PyProof.Rows.ksk_l1 _ _) fun E' => ?_
  rw [PyProof.Rows.ksk_t1]
  have I1 : Inv X pins σ H { s with heap := PySem.W.copyHeap s.heap vs } := I.kept (t' := s.toks) fun b o e => PySem.W.copyHeap_old e
  have ho := PySem.W.copyHeap_at s.heap vs
  have hnA : H (s.heap.objs.size + 1) = none := I.hok.fresh (Nat.le_succ _)
  have fa := I.fpOk (b := s.heap.objs.size + 1) (Nat.le_succ _) hnA
  generalize hg : PySem.W.copyHeap s.heap vs = g at I1 ho
  generalize hA : s.heap.objs.size + 1 = a at ho hnA fa
  have hlt : a < g.objs.size := Heap.lt_size ho
  obtain ⟨e1, ho1⟩ : ∃ e1, (g.update a (Obj.mapSeq fun _ => (#[] : Array Value))).get? a = some (seqObj "list" #[] e1) := ⟨_, get?_update_seq ho fun _ => #[]⟩
  have hkS : ((g.update a (Obj.mapSeq fun _ => (#[] : Array Value))).push (seqObj "tuple" vs.toArray 0)).objs.size = g.objs.size + 1 := by rw [Heap.size_push, Heap.size_update]
  unfold PyProof.Rows.ksk_tree
  refine wpAny_bind (listItems_at ho rfl ?_)
  refine wpAny_bind (listUpdate_at ho rfl ?_ (by rw [List.size_toArray]; exact hzv) (Nat.zero_le _))
  refine wpAny_bind (seqEpoch_at ho1 rfl ?_)
  refine wpAny_bind (wpAny_newTuple ?_ (by show vs.length ≤ _; exact hzv))
  refine wpAny_bind (wpAny_newList ?_ (Nat.zero_le _))
  refine wpAny_holding ?_
  have J : Inv X pins σ H { s with heap := PySem.W.sortingHeap g a vs } := Inv.turnedL (s := { s with heap := g }) (t' := s.toks) (ch := [a]) I1 (fun b o hb e => PySem.W.sortingHeap_old (by simpa using hb) e) (fun b hb => by rw [List.mem_singleton.mp hb]; exact fa)
  have fk : FpOk X pins H (g.objs.size + 1) := by
    have z : s.heap.objs.size ≤ g.objs.size := by rw [← hA] at hlt; omega
    exact I.fpOk (by omega) (I.hok.fresh (by omega))
  rw [hkS]
  refine sk_rest (s := { s with heap := PySem.W.sortingHeap g a vs }) J fa fk (Nat.ne_of_gt (Nat.lt_succ_of_lt hlt)) ?_ ?_ rv ax hks hal hzv (by show X.A.units + 1 + 1 + 60 < _; omega) turn fun s' H' out c I' sm na0 hout fa' ko => ⟨rfl, ?_⟩
  · exact Heap.get?_push_of_some _ (Heap.get?_push_of_some _ ho1)
  · have z := Heap.get?_push_size ((g.update a (Obj.mapSeq fun _ => (#[] : Array Value))).push (seqObj "tuple" vs.toArray 0)) (o := seqObj "list" #[] 0) rfl
    rw [hkS] at z
    exact z
  · obtain ⟨kl, _⟩ := keysD_get hks
    have ez : (ds.zip ks).map (·.2) = ks := by
      rw [List.map_snd_zip]
      omega
    rw [← ez] at ko
    have each : ∀ {xs : List V} {vs : List Value} {ds ks : List PyData}, AtAll X.prog X.w H' xs ds → Vals xs vs → ks.length = ds.length → EachIs (fun v (b : PyData × PyData) => ∃ x, RelV x v ∧ At X.prog X.w H' x b.1) vs (ds.zip ks) := by
      intro xs vs ds ks a
      induction a using AtAll.rec (motive_1 := fun _ _ _ => True) (motive_3 := fun _ _ _ => True) (motive_4 := fun _ _ _ => True) generalizing vs ks with
      | nil =>
        intro r _
        cases r
        exact .nil
      | cons a1 a2 _ ih =>
        intro r hl
        cases r with
        | cons r1 r2 =>
          cases ks with
          | nil => cases hl
          | cons k ks => exact .cons ⟨_, r1, a1⟩ (ih r2 (Nat.succ.inj hl))
      | _ => intros; trivial
    have eo := PySem.W.keyedOut_each (rev := false) (bs := ds.zip ks) (fun q => q.2) ko (each (ax.ext (.of sm)) rv kl)
    have back : ∀ {out : List Value} {bs : List (PyData × PyData)}, EachIs (fun v (b : PyData × PyData) => ∃ x, RelV x v ∧ At X.prog X.w H' x b.1) out bs → ∃ ys, Vals ys out ∧ AtAll X.prog X.w H' ys (bs.map (·.1)) := by
      intro out bs e
      induction e with
      | nil => exact ⟨[], .nil, .nil⟩
      | cons h1 _ ih =>
        obtain ⟨ys, i1, i2⟩ := ih
        obtain ⟨x, j1, j2⟩ := h1
        exact ⟨x :: ys, .cons j1 i1, .cons j2 i2⟩
    obtain ⟨ys, y1, y2⟩ := back eo
    have hyl : ys.length ≤ sizeLine := by
      have z1 := y2.length
      rw [List.length_map, List.length_mergeSort, List.length_zip] at z1
      have z2 := ax.length
      have z3 := rv.length
      omega
    have sa : Same H' (upd H' a (.lst ys)) := same_new na0
    refine ⟨.ref a, upd H' a (.lst ys), ?_, rfl, k a ys _ (sm.trans sa) hnA upd_same (y2.ext (.of sa))⟩
    have z := Inv.adopt (t' := s'.toks) (h' := s'.heap) (ch := [a]) (T := a) (ob := .lst ys) I' (fun b o _ e => e) (fun b hb => by rw [List.mem_singleton.mp hb]; exact fa') (.head _) ⟨hyl, out, c, y1, hout⟩
    exact z
theorem turn_def {f : Addr} {fd : FuncData} {ps : List Str} {k : Nat} {m : List PyData → Option PyData} (F : FnOk X.prog X.w X.K X.mg X.base CX0 k f fd ps (spD X.prog X.w [] 1 m)) (hb : L2.Binds X.K fd ps []) (hr : Room k X.A.in1.in1) : KTurn X pins σ X.A.in1.in1 (.ref f) H m := by
  intro pl s H1 v u d k I sm r a hm
  have sp : spD X.prog X.w [] 1 m [v] H1 (fun y H' => Same H1 H' ∧ At X.prog X.w H' y k) E0 := ⟨rfl, (fun q hq => nomatch hq), [d], k, .cons a .nil, hm, fun y H' e ay => ⟨fun b o h => e.1 b o h (.inl rfl), ay⟩⟩
  have hl := F.len _ _ _ _ sp
  refine wpAny_call (codeAny_mono (F.run X.A.in1.in1 X.stack s H1 ⟨[u], []⟩ [u] [v] _ E0 hr I.env0.in1.in1 (by
    have z := hb s [u] I.kIn (by rw [← hl]; rfl)
    rw [List.append_nil] at z
    exact z) (.cons r .nil) sp) fun rr s' hq => ?_)
  cases rr with
  | error e => exact hq.elim
  | ok fl =>
    cases fl with
    | ret u => exact I.after hq
    | next => exact False.elim hq
    | brk => exact False.elim hq
    | cont => exact False.elim hq
theorem el_sort {x : Str} {e : Expr} {p p2 kp pos : Pos} {j k : Nat} {m : List PyData → Option PyData} {fa : M PyData} (hr : Room j X.A) (d : DD X.prog X.w X.K X.mg X.base x k [] 1 m) (hm : X.mg "sorted" = none) (ha : ED B X e fa) (hk : k + 2 ≤ j := by decide) (hg : Gl X "sorted" := by rfl) (hgx : Gl X x := by rfl) (hd : (x == ("__debug__" : Str)) = false := by decide)
    (hs : starEach [e] X.env = [(false, eval e X.env)] := by rfl) (hall : (backToKw pos (keywordEach [⟨some "key", .Name x p2, kp⟩] X.env)).all (·.1.isSome) = true := by rfl) (hnone : (backToKw pos (keywordEach [⟨some "key", .Name x p2, kp⟩] X.env)).any (·.1.isNone) = false := by rfl) (hks : (backToKw pos (keywordEach [⟨some "key", .Name x p2, kp⟩] X.env)).filterMap (·.1) = [Str.ofString "key"] := by rfl) :
    EL B X (.Call (.Name "sorted" p) [e] [⟨some "key", .Name x p2, kp⟩] pos) (lSort m fa) := by
  obtain ⟨f, fd, ps, F, hmf, hkp, hb⟩ := d.ex
  have ck : CallRK X (.builtin "sorted") [Str.ofString "key"] (fun xs zs H Q => ∃ v dd ds ks, xs = [v] ∧ zs = [.ref f] ∧ At X.prog X.w H v (.list ds) ∧ keysD m ds = some ks ∧ alikeOk ks = true ∧ (∀ D ys H', Same H H' → H D = none → H' D = some (.lst ys) → AtAll X.prog X.w H' ys (((ds.zip ks).mergeSort (PySem.W.dataLe false fun q => q.2)).map (·.1)) → Q (.ref D) H') ∧ dd = ds) := by
    intro pins s σ H xs zs us ws Q I rx rz ⟨v, dd, ds, ks, e1, e2, a, h1, h2, k, _⟩
    subst e1 e2
    obtain ⟨u, rfl, ru⟩ := vals1 rx
    obtain ⟨w, rfl, rw'⟩ := vals1 rz
    obtain rfl : w = Value.ref f := rw'
    obtain ⟨q, o, vs, rfl, g1, g2⟩ := a.lst_inv
    obtain rfl : u = Value.ref q := ru
    exact sorted_keyI (o := o) I (.inl (.inr ⟨o, g1⟩)) g2 h1 h2 hr.units (turn_def F hb ((hr.mono hk).in1.in1)) k
  refine el_of (pe_callBK ck hg hm (by decide +kernel) (pa_cons ha.pe pa_nil (by rw [hs]; rfl)) (pk_cons (pe_glob (v := .ref f) hgx hmf rfl hd) pk_nil) (by decide) (by decide) (by rw [hs]; rfl) (by rw [hs]; rfl) hall hnone hks) fun σ H ρ ds ρ' r hf => ?_
  obtain ⟨⟨x, ρ1⟩, h1, h2⟩ := bind2 hf
  cases x with
  | list xs =>
    obtain ⟨ks, h3, h4⟩ := bind2 h2
    obtain ⟨h5, h6⟩ := if_inv h4
    obtain ⟨rfl, rfl⟩ := pair2 h6
    rw [Bool.and_eq_true] at h5
    exact ⟨ρ, _, ρ1, r, h1, fun v H1 p a => ⟨v, xs, xs, ks, rfl, rfl, a, h3, h5.2, fun D ys H2 sm hn hd ay => .id ⟨D, ys, rfl, p.alive D hn, hd, ay, p.trans (.same p.rep sm)⟩, rfl⟩⟩
  | _ => cases h2
end
end Dl
end
section
set_option Elab.async false
set_option linter.all false
set_option autoImplicit false
set_option maxRecDepth 100000
set_option maxHeartbeats 4000000
/-! SetE: sets of tuples of ints and texts. -/
namespace Dl
open PySem PySem.Spec PyProof.Rows L2
abbrev IsE (P : Program) (w : World) (h : Heap) (k : List Key) (b : Addr) : Prop := IsTupleKey (mixKind P w) h k b
def eHash (P : Program) (w : World) (k : List Key) : Int := tupleKeyHash (mixKind P w) k
def PlainV (v : Value) : Prop := (∃ i t, v = .int i t) ∨ ∃ x t, v = .str x t
theorem plain_cls (n : Nat) {v : Value} (h : PlainV v) : ofAClassStatement n v = pure false := by
  rcases h with ⟨i, t, rfl⟩ | ⟨x, t, rfl⟩ <;> cases n <;> rfl
theorem plain_hbv (n : Nat) {v : Value} (h : PlainV v) : ∃ b, hashByValue n v = pure b := by
  rcases h with ⟨i, t, rfl⟩ | ⟨x, t, rfl⟩
  · exact ⟨true, by cases n <;> rfl⟩
  · exact ⟨false, by unfold hashByValue; rfl⟩
section
variable {P : Program} {w : World} {A : Around} {E : Value → Shared → Prop} {s : Shared}
theorem mix_plain : ∀ {k : List Key} {vs : List Value}, ItemsAre (mixKind P w) k vs → ∀ v ∈ vs, PlainV v
  | _, _, .nil => fun v hv => nomatch hv
  | _, _, .cons h r => fun v hv => by
    rcases List.mem_cons.mp hv with rfl | hv
    · rcases keyIs_shape h with ⟨i, t, _, e⟩ | ⟨x, t, _, e⟩
      · exact .inl ⟨i, t, e⟩
      · exact .inr ⟨x, t, e⟩
    · exact mix_plain r v hv
theorem ent_cls {k : List Key} {b : Addr} {Q : Bool → Shared → Prop} (x : IsE P w s.heap k b) (q : Q false s) : wpAny (model P w) A (ofAClassStatement 8 (.ref b)) Q E s := by
  have ty := x.typeIs
  obtain ⟨ob, its, m, g1, _, g3, g4⟩ := x
  unfold ofAClassStatement
  refine wpAny_bind (wpAny_typeOf ty ?_)
  dsimp only
  simp only [show (("tuple" : String) == "tuple") = true by decide, if_true, Bool.not_true, Bool.false_eq_true, if_false]
  try refine wpAny_bind (wpAny_pure ?_)
  try simp only [Bool.not_true, Bool.false_eq_true, if_false]
  show wpAny _ _ (seqItems? (.ref b) >>= _) _ _ s
  refine wpAny_bind (wpAny_seqItems g1 g3 ?_)
  dsimp only
  refine wpAny_bind ?_
  show wpAny _ _ (forIn its _ _) _ _ s
  rw [← Array.forIn_toList]
  refine wpAny_forIn_list _ (fun left acc s2 => acc.1 = none ∧ s2 = s ∧ ∀ v ∈ left, PlainV v) _ ?_ ?_ _ _ ⟨rfl, rfl, mix_plain g4⟩
  · rintro v left acc s2 ⟨hn, rfl, pl⟩
    rw [plain_cls _ (pl v List.mem_cons_self)]
    refine wpAny_bind (wpAny_pure ?_)
    simp only [Bool.false_eq_true, if_false]
    exact wpAny_pure ⟨rfl, rfl, fun u hu => pl u (List.mem_cons_of_mem _ hu)⟩
  · rintro ⟨c1, c2⟩ s2 ⟨hn, rfl, _⟩
    simp only at hn
    subst hn
    exact wpAny_pure q
theorem ent_hbv {k : List Key} {b : Addr} {Q : Bool → Shared → Prop} (x : IsE P w s.heap k b) (q : ∀ c, Q c s) : wpAny (model P w) A (hashByValue 8 (.ref b)) Q E s := by
  have ty := x.typeIs
  obtain ⟨ob, its, m, g1, _, g3, g4⟩ := x
  unfold hashByValue
  refine wpAny_bind (wpAny_specialOf ty F.slot_tuple_hash.lookup ?_)
  show wpAny _ _ (seqItems? (.ref b) >>= _) _ _ s
  refine wpAny_bind (wpAny_seqItems g1 g3 ?_)
  refine wpAny_bind ?_
  show wpAny _ _ (forIn its _ _) _ _ s
  rw [← Array.forIn_toList]
  refine wpAny_forIn_list _ (fun left acc s2 => acc.1 = none ∧ s2 = s ∧ ∀ v ∈ left, PlainV v) _ ?_ ?_ _ _ ⟨rfl, rfl, mix_plain g4⟩
  · rintro v left acc s2 ⟨hn, rfl, pl⟩
    obtain ⟨c, hc⟩ := plain_hbv 7 (pl v List.mem_cons_self)
    rw [hc]
    refine wpAny_bind (wpAny_pure ?_)
    cases c with
    | true =>
      simp only [Bool.not_true, Bool.false_eq_true, if_false]
      exact wpAny_pure ⟨rfl, rfl, fun u hu => pl u (List.mem_cons_of_mem _ hu)⟩
    | false =>
      simp only [Bool.not_false, if_true]
      exact wpAny_pure (wpAny_pure (q _))
  · rintro ⟨c1, c2⟩ s2 ⟨hn, rfl, _⟩
    simp only at hn
    subst hn
    exact wpAny_pure (q _)
theorem ent_seen {k : List Key} {b : Addr} {Q : Bool → Shared → Prop} (x : IsE P w s.heap k b) {ys : List Value} (hy : ∀ y ∈ ys, ∃ l c, y = Value.ref c ∧ IsE P w s.heap l c) (q : Q false s) : wpAny (model P w) A (searchCouldBeSeen (.ref b) ys) Q E s := by
  unfold searchCouldBeSeen
  refine wpAny_bind (wpAny_forIn_list _ (fun left acc s2 => acc.1 = none ∧ s2 = s ∧ ∀ y ∈ left, ∃ l c, y = Value.ref c ∧ IsE P w s.heap l c) _ ?_ ?_ _ _ ⟨rfl, rfl, hy⟩)
  · rintro v left acc s2 ⟨hn, rfl, pl⟩
    obtain ⟨l, c, rfl, xc⟩ := pl v List.mem_cons_self
    have pl2 := fun u hu => pl u (List.mem_cons_of_mem _ hu)
    dsimp only
    by_cases z : (b == c || (carriedByValue (.ref b) && carriedByValue (.ref c))) = true
    · exact wp_if_pos z (wpAny_pure ⟨rfl, rfl, pl2⟩)
    · refine wp_if_neg z (wpAny_bind (wpAny_eqIsQuiet_tuple x ?_))
      simp only [Bool.not_true, Bool.false_eq_true, if_false]
      refine wpAny_bind (wpAny_eqIsQuiet_tuple xc ?_)
      simp only [Bool.not_true, Bool.false_eq_true, if_false]
      refine wpAny_bind (ent_cls x ?_)
      simp only [Bool.false_eq_true, if_false]
      refine wpAny_bind (ent_cls xc ?_)
      simp only [Bool.false_eq_true, if_false]
      exact wpAny_pure ⟨rfl, rfl, pl2⟩
  · rintro ⟨c1, c2⟩ s2 ⟨hn, rfl, _⟩
    simp only at hn
    subst hn
    exact wpAny_pure q
/-! ### the set -/
abbrev Ent := Addr × List Key
def eRows (P : Program) (w : World) (L : List Ent) : List (Int × Value) := L.map fun e => (eHash P w e.2, .ref e.1)
def eHs (P : Program) (w : World) (L : List Ent) : List Int := L.map fun e => eHash P w e.2
/-- the set at a has the entries L, in its table's order -/
structure SetE (P : Program) (w : World) (h : Heap) (a : Addr) (L : List Ent) (rows : Array (Int × Value)) (ep : Nat) (tb : SetTable) : Prop where
  obj : ∃ o, h.get? a = some o ∧ o.ExactSet ∧ o.data = .set rows ep tb
  eq : rows.toList = eRows P w L
  tab : TabOk tb (eHs P w L)
  one : (L.map (·.2)).Nodup
  led : w.params.followText "set-order" = true ∨ tb.led = true
  free : L.length * 5 < tb.mask * 3
  few : L.length < 64
variable {a : Addr} {L : List Ent} {rows : Array (Int × Value)} {ep : Nat} {tb : SetTable}
theorem eHs_len (L : List Ent) : (eHs P w L).length = L.length := List.length_map _
theorem rows_len (h : rows.toList = eRows P w L) : rows.size = L.length := by
  rw [← Array.length_toList, h]
  exact List.length_map _
theorem rows_at (h : rows.toList = eRows P w L) {i : Nat} {e : Ent} (g : L[i]? = some e) : rows[i]? = some (eHash P w e.2, Value.ref e.1) := by
  rw [← Array.getElem?_toList, h, eRows, List.getElem?_map, g]
  rfl
theorem tab_fits {hs : List Int} (T : TabOk tb hs) (n : rows.size = hs.length) (m : hs.length ≤ tb.mask) : tb.fits rows.size = true := by
  have z := T.sz
  unfold SetTable.fits SetTable.fill
  rw [T.dm, Bool.and_eq_true, beq_iff_eq, decide_eq_true_eq]
  refine ⟨by omega, ?_⟩
  show tb.place.size + 0 ≤ tb.mask
  omega
theorem SetE.fits (R : SetE P w s.heap a L rows ep tb) : tb.fits rows.size = true := by
  have f := R.free
  exact tab_fits R.tab ((rows_len R.eq).trans (eHs_len L).symm) (by rw [eHs_len]; omega)
theorem tab_stays {m : Nat} (h : MaskOk m) (t : SetTable) (e : t.mask = m) : ¬ t.gaveWay = true := by
  unfold SetTable.gaveWay
  rw [e, mask_odd h]
  decide
/-- the c-th state of the search for a hash -/
def stp (m : Nat) (g : Int) (c : Nat) : SetTable.Probe := nth m (runAt m (SetTable.bits g % (m + 1)) (SetTable.bits g)) c
theorem stp_j (m : Nat) (g : Int) (c : Nat) : (stp m g c).j = way m g c := rfl
theorem stp_add (m : Nat) (g : Int) (c q : Nat) : nth m (stp m g c) q = stp m g (c + q) := (nth_add m c _ q).symm
theorem adv_dummy {m : Nat} {p : SetTable.Probe} (h : p.dummy = none) : (adv m p).dummy = none := by
  unfold adv
  split <;> exact h
theorem nth_dummy {m : Nat} : ∀ (c : Nat) {p : SetTable.Probe}, p.dummy = none → (nth m p c).dummy = none
  | 0, _, h => h
  | c + 1, p, h => nth_dummy c (adv_dummy (m := m) h)
theorem stp_dummy (m : Nat) (g : Int) (c : Nat) : (stp m g c).dummy = none := nth_dummy c rfl
theorem ent_search (R : SetE P w s.heap a L rows ep tb) (hL : ∀ e ∈ L, IsE P w s.heap e.2 e.1) {x : Addr} {k : List Key} (hx : IsE P w s.heap k x) (hu : A.units < cLine) {N : Nat} (b1 : N < 10 * SetTable.turns tb.mask)
    (b2 : way tb.mask (eHash P w k) N ∉ tb.place.toList) (b3 : ∀ c, c < N → way tb.mask (eHash P w k) c ∈ tb.place.toList) {Q : SetFound → Shared → Prop} (q1 : k ∈ L.map (·.2) → Q (.there none) s) (q2 : k ∉ L.map (·.2) → Q (.free (way tb.mask (eHash P w k) N) false) s) :
    ∀ (fuel c : Nat) (at_ : Option SetTable.Probe), at_.getD (tb.probeStart (eHash P w k)) = stp tb.mask (eHash P w k) c → c ≤ N → N - c < fuel →
      (∀ (i : Nat) (e : Ent), L[i]? = some e → e.2 = k → ∃ d, c ≤ d ∧ d < N ∧ tb.place.toList[i]? = some (way tb.mask (eHash P w k) d)) → wpAny (model P w) A (setSearchFrom a (.ref x) (eHash P w k) true fuel at_) Q E s
  | 0, _, _, _, _, z, _ => (Nat.not_lt_zero _ z).elim
  | fuel + 1, c, at_, hat, hcN, hfu, ahead => by
    generalize hg : eHash P w k = g at *
    obtain ⟨ob, o1, o2, o3⟩ := R.obj
    have hfit := R.fits
    rw [setSearchFrom_succ]
    refine wpAny_bind (wpAny_setState_of o1 o3 hfit ?_)
    dsimp only
    refine wp_if_neg (tab_stays R.tab.mok tb rfl) ?_
    try refine wpAny_bind (wpAny_pure ?_)
    have wy : ∀ q, (nth tb.mask (stp tb.mask g c) q).j = way tb.mask g (c + q) := fun q => congrArg SetTable.Probe.j (stp_add tb.mask g c q)
    have hAt : ∀ (i : Nat) (e : Ent), L[i]? = some e → (fun i => (rows[i]?.map (·.1)).getD 0) i = eHash P w e.2 := fun i e h => by
      dsimp only
      rw [rows_at R.eq h]
      rfl
    have end_ : c + (N - c) = N := by omega
    rcases go_spec tb R.tab.ris R.tab.dm (fun i => (rows[i]?.map (·.1)).getD 0) g (10 * SetTable.turns tb.mask) (N - c) (stp tb.mask g c) (stp_dummy _ _ _) (by omega) (fun q hq => by rw [wy]; exact b3 _ (by omega)) (by rw [wy, end_]; exact b2) with ⟨q, i, hq, hi, hh, skip, met⟩ | ⟨skip, met⟩
    · simp only [stp_add, stp_j] at met hi
      have pr : tb.probe (fun i => (rows[i]?.map (·.1)).getD 0) g (at_.getD (tb.probeStart g)) = some (.candidate (way tb.mask g (c + q)) i (stp tb.mask g (c + (q + 1)))) := by
        rw [hat]
        exact met
      rw [pr]
      dsimp only
      have il : i < L.length := by
        have z1 := (List.getElem?_eq_some_iff.mp hi).1
        have z2 := R.tab.sz
        rw [eHs_len] at z2
        rw [Array.length_toList] at z1
        omega
      obtain ⟨e, he⟩ : ∃ e, L[i]? = some e := ⟨_, List.getElem?_eq_getElem il⟩
      have em : e ∈ L := List.mem_of_getElem? he
      have lv := slot_live R.tab.ris hi
      have go : wpAny (model P w) A (searchRest a (.ref x) g true fuel rows tb (way tb.mask g (c + q)) i (stp tb.mask g (c + (q + 1)))) Q E s := by
        unfold searchRest
        rw [rows_at R.eq he]
        dsimp only
        refine wpAny_bind (wpAny_holding (wpAny_eqBool_tuple hu (hL e em) hx ?_))
        refine wpAny_bind (wpAny_setState_of o1 o3 hfit ?_)
        dsimp only
        by_cases same : e.2 = k
        · exact wp_if_pos (by simp [same]) (wpAny_pure (q1 (List.mem_map.mpr ⟨e, em, same⟩)))
        · refine wp_if_neg (by simp [same]) ?_
          try refine wpAny_bind (wpAny_pure ?_)
          rw [sameMem]
          dsimp only
          simp only [if_true, lv, rows_at R.eq he]
          refine wpAny_bind (wpAny_isSame_ref_self (wpAny_bind (wpAny_pure ?_)))
          simp only [if_true]
          refine wp_if_neg (by simp [same]) ?_
          have rec_ := ent_search R hL hx hu b1 (by rw [hg]; exact b2) (by rw [hg]; exact b3) q1 (by rw [hg]; exact q2) fuel (c + (q + 1)) (some (stp tb.mask g (c + (q + 1)))) (by rw [hg]; rfl) (by omega) (by omega) fun i2 e2 g2 s2 => ?_
          · rw [hg] at rec_
            exact rec_
          · obtain ⟨d, d1, d2, d3⟩ := ahead i2 e2 g2 s2
            rw [hg]
            refine ⟨d, ?_, d2, d3⟩
            have dn : ¬ d < c + q := fun z => skip (d - c) i2 (by omega) (by rw [wy, show c + (d - c) = d by omega]; exact d3) ((hAt i2 e2 g2).trans (by rw [s2, hg]))
            have de : d ≠ c + q := fun z => by
              rw [z] at d3
              have lv2 := slot_live R.tab.ris d3
              rw [lv] at lv2
              injection lv2 with lv2
              subst lv2
              rw [he] at g2
              exact same ((congrArg Prod.snd (Option.some.inj g2)).trans s2)
            omega
      by_cases hl : tb.led = true
      · refine wp_if_neg (by simp [hl]) ?_
        try refine wpAny_bind (wpAny_pure ?_)
        exact go
      · refine wp_if_pos (by simp [hl]) (wpAny_bind (ent_seen hx (fun y hy => ?_) ?_))
        · obtain ⟨r, hr, rfl⟩ := List.mem_map.mp hy
          have hr2 : r ∈ rows ∧ r.1 = g := by simpa using hr
          have hr3 : r ∈ rows.toList := by simpa using hr2.1
          rw [R.eq] at hr3
          obtain ⟨e2, m2, rfl⟩ := List.mem_map.mp hr3
          exact ⟨e2.2, e2.1, rfl, hL e2 m2⟩
        · refine wp_if_neg (by decide) ?_
          try refine wpAny_bind (wpAny_pure ?_)
          exact go
    · simp only [stp_add, stp_j, end_] at met
      have pr : tb.probe (fun i => (rows[i]?.map (·.1)).getD 0) g (at_.getD (tb.probeStart g)) = some (.empty (way tb.mask g N) none) := by
        rw [hat]
        exact met
      rw [pr]
      dsimp only
      refine wpAny_pure (q2 fun hm => ?_)
      obtain ⟨e, em, ek⟩ := List.mem_map.mp hm
      obtain ⟨i, hi, hie⟩ := List.getElem_of_mem em
      have he : L[i]? = some e := by rw [List.getElem?_eq_getElem hi, hie]
      obtain ⟨d, d1, d2, d3⟩ := ahead i e he ek
      exact skip (d - c) i (by omega) (by rw [wy, show c + (d - c) = d by omega]; exact d3) ((hAt i e he).trans (by rw [ek, hg]))
theorem ent_find (R : SetE P w s.heap a L rows ep tb) (hL : ∀ e ∈ L, IsE P w s.heap e.2 e.1) {x : Addr} {k : List Key} (hx : IsE P w s.heap k x) (hu : A.units < cLine) {Q : SetFound → Shared → Prop} (q1 : k ∈ L.map (·.2) → Q (.there none) s)
    (q2 : ∀ N, k ∉ L.map (·.2) → way tb.mask (eHash P w k) N ∉ tb.place.toList → (∀ c, c < N → way tb.mask (eHash P w k) c ∈ tb.place.toList) → Q (.free (way tb.mask (eHash P w k) N) false) s) : wpAny (model P w) A (setSearch a (.ref x) (eHash P w k) true) Q E s := by
  have f := R.free
  obtain ⟨N, n1, n2, n3⟩ := R.tab.first (by rw [eHs_len]; omega) (eHash P w k)
  have n4 : N < 100000 := by
    have : SetTable.turns tb.mask ≤ 142 := by
      unfold SetTable.turns
      rcases R.tab.mok with e | e | e <;> omega
    omega
  unfold setSearch
  refine ent_search R hL hx hu n1 n2 n3 q1 (fun z => q2 N z n2 n3) 100000 0 none rfl (Nat.zero_le _) (by omega) fun i e he ek => ?_
  have il : i < tb.place.toList.length := by
    have z1 : i < L.length := (List.getElem?_eq_some_iff.mp he).1
    have z2 := R.tab.sz
    rw [eHs_len] at z2
    rw [Array.length_toList]
    omega
  obtain ⟨c, c1, c2⟩ := R.tab.before n2 (show (eHs P w L)[i]? = some (eHash P w k) by rw [eHs, List.getElem?_map, he, ← ek]; rfl) (List.getElem?_eq_getElem il)
  exact ⟨c, Nat.zero_le _, c1, by rw [List.getElem?_eq_getElem il, c2]⟩
end
end Dl
end
section
set_option Elab.async false
set_option linter.all false
set_option autoImplicit false
set_option maxRecDepth 100000
set_option maxHeartbeats 4000000
/-! SetE2: adding an entry. -/
namespace Dl
open PySem PySem.Spec PyProof.Rows L2
section
variable {P : Program} {w : World} {A : Around} {E : Value → Shared → Prop} {s : Shared} {a : Addr} {L : List Ent} {rows : Array (Int × Value)} {ep : Nat} {tb : SetTable}
theorem range_pick {α : Type} : ∀ L : List α, (List.range L.length).filterMap (fun i => L[i]?) = L
  | [] => rfl
  | x :: L => by
    rw [List.length_cons, List.range_succ_eq_map, List.filterMap_cons_some (show (x :: L)[0]? = some x from rfl), List.filterMap_map]
    exact congrArg (x :: ·) (range_pick L)
theorem rows_pick (g : rows.toList = eRows P w L) : ∀ l : List Nat, (∀ i ∈ l, i < L.length) → l.filterMap (fun i => rows[i]?) = eRows P w (l.filterMap fun i => L[i]?) ∧ eHs P w (l.filterMap fun i => L[i]?) = l.map fun i => (rows.map (·.1)).getD i 0
  | [], _ => ⟨rfl, rfl⟩
  | i :: l, h => by
    obtain ⟨e1, e2⟩ := rows_pick g l fun j hj => h j (List.mem_cons_of_mem _ hj)
    have hi := h i List.mem_cons_self
    have hL : L[i]? = some L[i] := List.getElem?_eq_getElem hi
    have hr := rows_at g hL
    rw [List.filterMap_cons_some hr, List.filterMap_cons_some hL, e1]
    refine ⟨rfl, ?_⟩
    have hm : (rows.map (·.1)).getD i 0 = eHash P w (L[i]).2 := by
      rw [Array.getD_eq_getD_getElem?, Array.getElem?_map, hr]
      rfl
    rw [List.map_cons, hm, ← e2]
    rfl
theorem rows_order (g : rows.toList = eRows P w L) {ord : Array Nat} (p : ord.toList.Perm (List.range L.length)) : ∃ L2, (ord.filterMap (rows[·]?)).toList = eRows P w L2 ∧ L2.Perm L ∧ eHs P w L2 = ord.toList.map fun i => (rows.map (·.1)).getD i 0 := by
  obtain ⟨e1, e2⟩ := rows_pick g ord.toList fun i hi => List.mem_range.mp (p.mem_iff.mp hi)
  refine ⟨_, ?_, ?_, e2⟩
  · rw [Array.toList_filterMap]
    exact e1
  · have z := p.filterMap fun i => L[i]?
    rw [range_pick] at z
    exact z
theorem ent_relay {ob : Obj} (o1 : s.heap.get? a = some ob) (o2 : ob.ExactSet) (o3 : ob.data = .set rows ep tb) (g : rows.toList = eRows P w L) (f1 : tb.fits rows.size = true) (nd : (L.map (·.2)).Nodup)
    (ld : w.params.followText "set-order" = true ∨ tb.led = true) (few : L.length < 64) {want M : Nat} (m1 : SetTable.sizeAbove want - 1 = M) (m2 : MaskOk M) (m3 : SetTable.sizeAbove want ≤ 128) (m4 : L.length * 5 < M * 3) {Q : Unit → Shared → Prop}
    (q : ∀ h2 L2 rows2 ep2 tb2, Heap.SameBut a s.heap h2 → SetE P w h2 a L2 rows2 ep2 tb2 → L2.Perm L → Q () { s with heap := h2 }) : wpAny (model P w) A (setRelay a want) Q E s := by
  have rl := rows_len g
  obtain ⟨tb2, ord, r1, r2, r3, r4, r5, r6, _⟩ := relaid_ok tb (hs := rows.map (·.1)) (wanted := want) m1 m2 (by rw [Array.size_map, rl]; omega)
  rw [Array.size_map, rl] at r2
  obtain ⟨L2, l1, l2, l3⟩ := rows_order g r2
  rw [← l3] at r3
  have l4 : (ord.filterMap (rows[·]?)).size = rows.size := (rows_len l1).trans (l2.length_eq.trans rl.symm)
  rw [setRelay_eq]
  refine wpAny_bind (wpAny_setState_of o1 o3 f1 ?_)
  dsimp only
  refine wp_if_neg (by rw [sizeLine_eq]; omega) ?_
  try refine wpAny_bind (wpAny_pure ?_)
  rw [r1]
  dsimp only
  refine wpAny_bind (wp_if_neg (by rw [l4]; simp) ?_)
  try refine wpAny_bind (wpAny_pure ?_)
  refine wpAny_pure ?_
  dsimp only
  refine wpAny_storeSet_of o1 o3 ?_ (by rw [l4, rl, sizeLine_eq]; omega)
  have but_ : Heap.SameBut a s.heap (s.heap.update a (Obj.putSet (ord.filterMap (rows[·]?)) tb2)) := Heap.SameBut.update ..
  refine q _ L2 (ord.filterMap (rows[·]?)) (ep + 1) tb2 but_ ⟨⟨_, store_at o1 o3, ⟨o2.1, o2.2.1, o2.2.2⟩, rfl⟩, l1, r3, ?_, by rw [r5]; exact ld, ?_, by rw [l2.length_eq]; exact few⟩ l2
  · exact (l2.map (·.2)).nodup_iff.mpr nd
  · rw [l2.length_eq, r4]
    exact m4
/-- adding: what was there stays; what is new comes in -/
theorem ent_add (R : SetE P w s.heap a L rows ep tb) (hL : ∀ e ∈ L, IsE P w s.heap e.2 e.1) {x : Addr} {k : List Key} (hx : IsE P w s.heap k x) (hu : A.units < cLine) (few : L.length + 1 < 64) {Q : Bool → Shared → Prop}
    (q : ∀ c h2 L2 rows2 ep2 tb2, Heap.SameBut a s.heap h2 → SetE P w h2 a L2 rows2 ep2 tb2 → (k ∈ L.map (·.2) → L2 = L) → (k ∉ L.map (·.2) → L2.Perm ((x, k) :: L)) → Q c { s with heap := h2 }) : wpAny (model P w) A (setAddHashed a (.ref x) (eHash P w k)) Q E s := by
  obtain ⟨ob, o1, o2, o3⟩ := R.obj
  have rl := rows_len R.eq
  have fr := R.free
  unfold setAddHashed
  refine wpAny_holding ?_
  rw [show (100000 : Nat) = 99999 + 1 from rfl, setAddHashedIn_succ]
  refine wpAny_bind (wpAny_setState_of o1 o3 R.fits ?_)
  dsimp only
  refine wp_if_neg (by simp [byScan, Value.scannable]) ?_
  try refine wpAny_bind (wpAny_pure ?_)
  refine wpAny_bind (ent_find R hL hx hu (fun hm => ?_) fun N hm n1 n2 => ?_)
  · dsimp only
    exact wpAny_pure (q false s.heap L rows ep tb (Heap.SameBut.refl a s.heap) R (fun _ => rfl) fun z => (z hm).elim)
  dsimp only
  refine wpAny_bind (wpAny_setState_of o1 o3 R.fits ?_)
  dsimp only
  obtain ⟨t1, t2, t3, t4, t5, t6, t7, t8, t9⟩ := R.tab.put n1 n2
  generalize hp : tb.put (way tb.mask (eHash P w k) N) = pr at t1 t3 t4 t5 t6 t7 t8 t9 ⊢
  obtain ⟨tb1, j⟩ := pr
  dsimp only at t1 t3 t4 t5 t6 t7 t8 t9 ⊢
  subst t1
  generalize hj : SetTable.below tb.place (way tb.mask (eHash P w k) N) = j at t2 t3 ⊢
  have i1 : (SetTable.insertAt rows j (eHash P w k, Value.ref x)).toList = eRows P w (L.take j ++ (x, k) :: L.drop j) := by
    rw [SetTable.toList_insertAt, R.eq]
    simp [eRows]
  have i2 : eHs P w (L.take j ++ (x, k) :: L.drop j) = (eHs P w L).take j ++ eHash P w k :: (eHs P w L).drop j := by simp [eHs]
  have i3 := put_perm L j (x, k)
  rw [← i2] at t3
  generalize L.take j ++ (x, k) :: L.drop j = L1 at i1 i3 t3
  have i4 : L1.length = L.length + 1 := i3.length_eq
  have i5 := rows_len i1
  have i6 : (L1.map (·.2)).Nodup := by
    refine (i3.map (·.2)).nodup_iff.mpr ?_
    rw [List.map_cons]
    exact List.nodup_cons.mpr ⟨hm, R.one⟩
  generalize SetTable.insertAt rows j (eHash P w k, Value.ref x) = rows1 at i1 i5 ⊢
  -- whether the hashes stand by value is not asked for
  have tail : ∀ tb2 : SetTable, tb2 = tb1 ∨ tb2 = { tb1 with plain := false } → wpAny (model P w) A (do
      storeSet a rows1 tb2
      if !false && tb2.tooFull then setRelay a (SetTable.grown (rows.size + 1))
      return true) Q E s := by
    intro tb2 h2
    have u1 : TabOk tb2 (eHs P w L1) := by
      rcases h2 with rfl | rfl
      · exact t3
      · exact ⟨t3.ris, t3.dm, t3.sz, t3.mok, t3.bd, t3.reach⟩
    have u2 : tb2.mask = tb.mask := by rcases h2 with rfl | rfl <;> exact t4
    have u3 : w.params.followText "set-order" = true ∨ tb2.led = true := by
      have z : tb2.led = tb.led := by rcases h2 with rfl | rfl <;> exact t5
      rw [z]
      exact R.led
    have u4 : tb2.fill = L.length + 1 := by
      rw [eHs_len] at t9
      rcases h2 with rfl | rfl <;> exact t9
    refine wpAny_bind (wpAny_storeSet_of o1 o3 ?_ (by rw [i5, i4, sizeLine_eq]; omega))
    have but_ : Heap.SameBut a s.heap (s.heap.update a (Obj.putSet rows1 tb2)) := Heap.SameBut.update ..
    have o4 := store_at (es' := rows1) (t' := tb2) o1 o3
    generalize s.heap.update a (Obj.putSet rows1 tb2) = hp2 at but_ o4 ⊢
    by_cases full : tb2.tooFull = true
    · have v1 : (L.length + 1) * 5 ≥ tb2.mask * 3 := by
        have z := full
        unfold SetTable.tooFull at z
        rw [decide_eq_true_eq, u4] at z
        exact z
      have v2 : (tb.mask = 7 ∧ L.length = 4) ∨ (tb.mask = 31 ∧ L.length = 18) := by
        rw [u2] at v1
        rcases R.tab.mok with e | e | e
        · exact .inl ⟨e, by omega⟩
        · exact .inr ⟨e, by omega⟩
        · omega
      have go : ∀ M, SetTable.sizeAbove (SetTable.grown (L.length + 1)) - 1 = M → MaskOk M → SetTable.sizeAbove (SetTable.grown (L.length + 1)) ≤ 128 → (L.length + 1) * 5 < M * 3 →
          wpAny (model P w) A (setRelay a (SetTable.grown (L.length + 1))) (fun _ s2 => wpAny (model P w) A (pure true) Q E s2) E { s with heap := hp2 } := fun M w1 w2 w3 w4 => by
        refine ent_relay (s := { s with heap := hp2 }) o4 ⟨o2.1, o2.2.1, o2.2.2⟩ rfl i1 ?_ i6 u3 (by rw [i4]; exact few) w1 w2 w3 (by rw [i4]; exact w4) fun h3 L3 rows3 ep3 tb3 b3 R3 p3 => ?_
        · exact tab_fits u1 (i5.trans (eHs_len L1).symm) (by rw [eHs_len, i4, u2]; rcases v2 with ⟨e, e2⟩ | ⟨e, e2⟩ <;> omega)
        · exact wpAny_pure (q true h3 L3 rows3 ep3 tb3 (but_.trans b3) R3 (fun z => (hm z).elim) fun _ => p3.trans i3)
      first
        | (refine wpAny_bind ?_; refine wp_if_pos (by simp [full]) ?_)
        | (refine wp_if_pos (by simp [full]) ?_; refine wpAny_bind ?_)
      rw [rl]
      rcases v2 with ⟨_, e2⟩ | ⟨_, e2⟩
      · exact go 31 (by rw [e2, size_20]) (.inr (.inl rfl)) (by rw [e2, size_20]; decide) (by omega)
      · exact go 127 (by rw [e2, size_76]) (.inr (.inr rfl)) (by rw [e2, size_76]; decide) (by omega)
    · first
        | refine wp_if_neg (by simp [full]) ?_
        | (refine wpAny_bind ?_; refine wp_if_neg (by simp [full]) ?_; refine wpAny_pure ?_)
      refine wpAny_pure (q true hp2 L1 rows1 (ep + 1) tb2 but_ ⟨⟨_, o4, ⟨o2.1, o2.2.1, o2.2.2⟩, rfl⟩, i1, u1, i6, u3, ?_, by rw [i4]; exact few⟩ (fun z => (hm z).elim) fun _ => i3)
      have z := full
      unfold SetTable.tooFull at z
      rw [decide_eq_true_eq, u4] at z
      rw [i4]
      omega
  by_cases pl : tb1.plain = true
  · first
      | (refine wpAny_bind ?_; refine wp_if_pos pl ?_)
      | refine wp_if_pos pl (wpAny_bind ?_)
    refine ent_hbv hx fun c => ?_
    cases c with
    | true =>
      simp only [if_true]
      exact tail tb1 (.inl rfl)
    | false =>
      simp only [Bool.false_eq_true, if_false]
      exact tail { tb1 with plain := false } (.inr rfl)
  · first
      | (refine wpAny_bind ?_; refine wp_if_neg pl ?_; refine wpAny_pure ?_)
      | (refine wp_if_neg pl ?_)
    exact tail tb1 (.inl rfl)
theorem isE_but {h h2 : Heap} {k : List Key} {b : Addr} {ob : Obj} (x : IsE P w h k b) (o1 : h.get? a = some ob) (o3 : ob.data = .set rows ep tb) (d : Heap.SameBut a h h2) : IsE P w h2 k b := by
  obtain ⟨o, its, n, e1, e2, e3, e4⟩ := x
  refine ⟨o, its, n, (d.2 b fun z => ?_).trans e1, e2, e3, e4⟩
  subst z
  rw [o1] at e1
  cases e1
  rw [o3] at e3
  cases e3
theorem isE_keep {h h2 : Heap} {k : List Key} {b : Addr} (x : IsE P w h k b) (d : ∀ c o, h.get? c = some o → h2.get? c = some o) : IsE P w h2 k b :=
  let ⟨o, its, n, e1, e2⟩ := x
  ⟨o, its, n, d b o e1, e2⟩
end
end Dl
end
section
set_option Elab.async false
set_option linter.all false
/-! GenM: the mirrors of the program's and the law's defs (printed by gen.py) -/
namespace Dl
open PySem
def g_rank : G :=
    sSeq (sIf (tB (e2 opIs (eVar 0) (eC .none))) (sRet (eTup (aCons (eC (.int 0)) (aNil)))) (sNext))
    (sRet (eIf (tB (e1 isStr (eVar 0))) (eTup (aCons (eC (.int 2)) (aCons (eVar 0) (aNil)))) (eTup (aCons (eC (.int 1)) (aCons (eVar 0) (aNil))))))
def m_rank : List PyData → Option PyData := runF 1 1 g_rank
def g_ranks : G :=
    sRet (e1 tupD (eFz (lComp (iDat (eVar 0)) [1] (aName) [1] (tYes) (eCall m_rank (aCons (eVar 1) (aNil))))))
def m_ranks : List PyData → Option PyData := runF 1 2 g_ranks
def g_can_part : G :=
    sRet (e1 allD (eFz (lComp (iDat (eVar 0)) [1] (aName) [1] (tYes) (e2 opIn (eVar 1) (eTup (aCons (eC (.str "count")) (aCons (eC (.str "sum")) (aNil))))))))
def m_can_part : List PyData → Option PyData := runF 1 2 g_can_part
/-- the entries of lots, each once, ascending -/
def firstOf : List PyData → List PyData → List PyData
  | [], acc => acc
  | d :: ds, acc => if acc.any fun e => decide (toK e = toK d) then firstOf ds acc else firstOf ds (acc ++ [d])
def lotItems : List PyData → Option (List PyData)
  | [] => some []
  | d :: ds => (itemsD d).bind fun xs => (lotItems ds).bind fun ys => some (xs ++ ys)
def flatK : PyData → Bool
  | .int _ => true
  | .str _ => true
  | _ => false
/-- a tuple of numbers and texts -/
def flatD : PyData → Bool
  | .tuple ds => ds.all flatK
  | _ => false
def lTog : M (List PyData) := fun ρ => (eVar 0 ρ).bind fun p => match p.1 with
  | .list lots => (lotItems lots).bind fun es => if alikeOk es && es.all flatD && decide (es.length < 64) && decide (2 < p.2.sl.length) then some ((firstOf es []).mergeSort (PySem.W.dataLe false fun e => e), p.2) else none
  | _ => none
def g_together : G := sRet (e1 tupD (eFz lTog))
def m_together : List PyData → Option PyData := runF 1 3 g_together
/-- d.setdefault(k, []).append(v) -/
def addG (kvs : List (NestedKey × List PyData)) (k : NestedKey) (v : PyData) : List (NestedKey × List PyData) :=
  if kvs.any fun p => decide (p.1 = k) then kvs.map fun p => if p.1 = k then (p.1, p.2 ++ [v]) else p else kvs ++ [(k, [v])]
def gSmall (kvs : List (NestedKey × List PyData)) : Bool := small kvs.length && kvs.all fun p => small p.2.length
def ndlD (kvs : List (NestedKey × List PyData)) : PyData := .dict (kvs.map fun p => (p.1.data, .list p.2))
def g_second_hows : G :=
    sRet (e2 opMul (eTup (aCons (eC (.str "sum")) (aNil))) (e1 lenD (eVar 0)))
def m_second_hows : List PyData → Option PyData := runF 1 1 g_second_hows
def g_place_of : G :=
    sSeq (sSet [1, 2, 3] (aTup [aName, aName, aName]) (eVar 0))
    (sRet (eTup (aCons (eVar 1) (aCons (eVar 2) (aCons (eCall m_ranks (aCons (eVar 3) (aNil))) (aNil))))))
def m_place_of : List PyData → Option PyData := runF 1 4 g_place_of
def m_lam : List PyData → Option PyData := runE 1 1 (eTup (aCons (eCall m_place_of (aCons (e2 ixD (eVar 0) (eC (.int 0))) (aNil))) (aCons (e2 ixD (eVar 0) (eC (.int 1))) (aNil))))
def g_bag_of : G :=
    sSeq (sSetV 1 (vN))
    (sSeq (sFor (iDat (eVar 0)) [2] (aName) (sPutN 1 (eVar 2) (e2 opAdd (eGetN 1 (eVar 2) (eC (.int 0))) (eC (.int 1)))))
    (sRet (eVar 1)))
def m_bag_of : List PyData → Option PyData := runF 1 3 g_bag_of
def g_worth_at : G :=
    sSeq (sIf (tB (e2 opEq (e2 ixD (eVar 1) (eC (.int 0))) (eC (.str "column")))) (sRet (e2 ixD (eVar 2) (e2 ixD (eVar 0) (e2 ixD (eVar 1) (eC (.int 1)))))) (sNext))
    (eNo)
def m_worth_at : List PyData → Option PyData := runF 3 5 g_worth_at
def g_worth : G :=
    sRet (eCall m_worth_at (aCons (dComp (iEnum (eVar 0)) [3, 4, 5] (aTup [aName, aTup [aName, aName]]) [3, 4, 5] (eVar 4) (eVar 3)) (aCons (eVar 1) (aCons (eVar 2) (aNil)))))
def m_worth : List PyData → Option PyData := runF 3 6 g_worth
def g_made_of : G :=
    sSeq (sIf (tB (e2 opEq (e2 ixD (eVar 0) (eC (.int 0))) (eC (.str "source")))) (sRet (eTup (aNil))) (sNext))
    (sRet (eIf (tB (e2 opIn (e2 ixD (eVar 0) (eC (.int 0))) (eTup (aCons (eC (.str "both")) (aCons (eC (.str "join")) (aNil)))))) (e1 (slT (some 1) (some 3)) (eVar 0)) (e1 (slT (some 1) (some 2)) (eVar 0))))
def m_made_of : List PyData → Option PyData := runF 1 1 g_made_of
def g_columns_made : G :=
    sSeq (sIf (tB (e2 opEq (e2 ixD (eVar 0) (eC (.int 0))) (eC (.str "source")))) (sRet (e2 ixD (eVar 0) (eC (.int 1)))) (sNext))
    (sSeq (sSetV 2 (vD (e2 ixD (eVar 1) (e2 ixD (eVar 0) (eC (.int 1))))))
    (sSeq (sIf (tB (e2 opIn (e2 ixD (eVar 0) (eC (.int 0))) (eTup (aCons (eC (.str "keep")) (aCons (eC (.str "both")) (aNil)))))) (sRet (eVar 2)) (sNext))
    (sSeq (sIf (tB (e2 opEq (e2 ixD (eVar 0) (eC (.int 0))) (eC (.str "make")))) (eNo) (sNext))
    (sSeq (sIf (tB (e2 opEq (e2 ixD (eVar 0) (eC (.int 0))) (eC (.str "join")))) (eNo) (sNext))
    (sSeq (sSetV 3 (vL (lAdd (eFz (lComp (iDat (e2 ixD (eVar 0) (eC (.int 2)))) [8] (aName) [8] (tYes) (eTup (aCons (eVar 8) (aCons (e2 ixD (e1 dictD (eVar 2)) (eVar 8)) (aNil)))))) (eFz (lDisp (aCons (eTup (aCons (eC (.str "from")) (aCons (eC (.str "number")) (aNil)))) (aCons (eTup (aCons (eC (.str "to")) (aCons (eC (.str "number")) (aNil)))) (aNil))))))))
    (sSeq (sFor (iDat (e2 ixD (eVar 0) (eC (.int 4)))) [4, 5, 6] (aTup [aName, aName, aName]) (sApp 3 (eTup (aCons (eVar 4) (aCons (eIf (tB (e2 opIn (eVar 5) (eTup (aCons (eC (.str "count")) (aCons (eC (.str "sum")) (aNil)))))) (eC (.str "number")) (eNo)) (aNil))))))
    (sRet (e1 tupD (eVar 3)))))))))
def m_columns_made : List PyData → Option PyData := runF 2 9 g_columns_made
def g_step_of : G :=
    sRet (e2 ixD (e1 dictD (e1 (slT none (some (-1))) (eVar 0))) (eVar 1))
def m_step_of : List PyData → Option PyData := runF 2 2 g_step_of
def g_columns_of : G :=
    sSeq (sSetV 2 (vK))
    (sSeq (sFor (iDat (e1 (slT none (some (-1))) (eVar 0))) [3, 4] (aTup [aName, aName]) (sPutK 2 (eVar 3) (eLend 2 (eCall m_columns_made (aCons (eVar 4) (aCons (eVar 2) (aNil)))))))
    (sRet (e2 ixD (eVar 2) (eVar 1))))
def m_columns_of : List PyData → Option PyData := runF 2 5 g_columns_of
def g_steps_ahead : G :=
    sRet (eCall m_made_of (aCons (eCall m_step_of (aCons (eVar 0) (aCons (eVar 1) (aNil)))) (aNil)))
def m_steps_ahead : List PyData → Option PyData := runF 2 2 g_steps_ahead
def g_out_of : G :=
    sRet (e2 ixD (e2 ixD (eVar 0) (e1 opNeg (eC (.int 1)))) (eC (.int 1)))
def m_out_of : List PyData → Option PyData := runF 1 1 g_out_of
def g_mark_of : G :=
    sRet (e2 maxDf (eFz (lComp (iDat (eVar 0)) [1] (aName) [1] (tB (e2 opEq (e2 ixD (eVar 1) (eC (.int 0))) (eC (.str "mark")))) (e2 ixD (eVar 1) (eC (.int 1))))) (eC (.int 0)))
def m_mark_of : List PyData → Option PyData := runF 1 2 g_mark_of
def g_marks_of : G :=
    sSeq (sSetV 2 (vK))
    (sSeq (sFor (iDat (e1 (slT none (some (-1))) (eVar 0))) [3, 4] (aTup [aName, aName]) (sIf (tB (e2 opEq (e2 ixD (eVar 4) (eC (.int 0))) (eC (.str "source")))) (sPutK 2 (eVar 3) (e2 minDf (eFz (lComp (iDat (e2 ixD (eVar 1) (eVar 3))) [5] (aName) [5] (tYes) (eCall m_mark_of (aCons (eVar 5) (aNil))))) (eC (.int 1000000000)))) (sPutK 2 (eVar 3) (e1 minD (eFz (lComp (iDat (eCall m_steps_ahead (aCons (eVar 0) (aCons (eVar 3) (aNil))))) [6] (aName) [6] (tYes) (eIxO 2 (eVar 6))))))))
    (sRet (eVar 2)))
def m_marks_of : List PyData → Option PyData := runF 2 7 g_marks_of
def g_late_of : G :=
    sSeq (sPar 1 2 (vL (lDisp (aNil))) (vD (eC (.int 0))))
    (sSeq (sFor (iEnum (eVar 0)) [3, 4] (aTup [aName, aName]) (sIf (tB (e2 opEq (e2 ixD (eVar 4) (eC (.int 0))) (eC (.str "mark")))) (sSetV 2 (vD (e2 max2 (eVar 2) (e2 ixD (eVar 4) (eC (.int 1)))))) (sIf (tB (e2 opLt (e2 ixD (eVar 4) (eC (.int 1))) (eVar 2))) (sApp 1 (eVar 3)) (sNext))))
    (sRet (eVar 1)))
def m_late_of : List PyData → Option PyData := runF 1 5 g_late_of
def g_of_source : G :=
    sSeq (sSetV 2 (vL (lDisp (aNil))))
    (sSeq (sFor (iEnum (eVar 1)) [3, 4] (aTup [aName, aName]) (sSeq (sSetV 5 (vD (eCall m_late_of (aCons (eVar 4) (aNil)))))
    (sFor (iEnum (eVar 4)) [6, 7] (aTup [aName, aName]) (sIf (tAnd (tB (e2 opEq (e2 ixD (eVar 7) (eC (.int 0))) (eC (.str "row")))) (tB (e2 opNotIn (eVar 6) (eVar 5)))) (sApp 2 (eTup (aCons (e1 (slT (some 1) none) (eVar 7)) (aCons (eTup (aCons (eTup (aCons (eVar 0) (aCons (eVar 3) (aCons (eVar 6) (aNil))))) (aNil))) (aNil))))) (sNext)))))
    (sRet (eVar 2)))
def m_of_source : List PyData → Option PyData := runF 2 8 g_of_source
def g_worths_of : G :=
    sSeq (sSetV 3 (vD (eFz (lComp (iDat (eVar 0)) [4, 5] (aTup [aName, aName]) [4, 5] (tYes) (eVar 4)))))
    (sRet (e1 tupD (eFz (lComp (iDat (eVar 1)) [4] (aName) [4] (tYes) (e2 ixD (eVar 2) (e2 idxD (eVar 3) (eVar 4)))))))
def m_worths_of : List PyData → Option PyData := runF 3 6 g_worths_of
def byKeysGo (cs ks : PyData) : List PyData → List (NestedKey × List PyData) → Option (List (NestedKey × List PyData))
  | [], acc => some acc
  | .tuple [row, lot] :: r, acc => (ixD row (.int 2)).bind fun vs => (m_worths_of [cs, ks, vs]).bind fun kd => (toKey kd).bind fun k => if gSmall acc then byKeysGo cs ks r (addG acc k (.tuple [row, lot])) else none
  | _ :: _, _ => none
def m_by_keys : List PyData → Option PyData
  | [cs, ks, .list rows] => (byKeysGo cs ks rows []).bind fun g => some (ndlD g)
  | _ => none
def g_spans_of : G :=
    sSeq (sPar 2 3 (vD (e2 ixD (eVar 0) (eC (.int 1)))) (vD (e2 ixD (eVar 0) (e1 opNeg (eC (.int 1))))))
    (sSeq (sSetV 4 (vD (e2 opSub (eVar 1) (e2 opMod (eVar 1) (eVar 3)))))
    (sRet (eFz (lComp (iRange3 (eVar 4) (e2 max2 (e2 opSub (eVar 1) (eVar 2)) (e1 opNeg (eC (.int 1)))) (e1 opNeg (eVar 3))) [5] (aName) [5] (tYes) (eTup (aCons (eVar 5) (aCons (e2 opAdd (eVar 5) (eVar 2)) (aNil))))))))
def m_spans_of : List PyData → Option PyData := runF 2 6 g_spans_of
def winsAdd (v : PyData) : List PyData → List (NestedKey × List PyData) → Option (List (NestedKey × List PyData))
  | [], acc => some acc
  | sp :: r, acc => (toKey sp).bind fun k => if gSmall acc then winsAdd v r (addG acc k v) else none
def winsGo (wd : PyData) : List PyData → List (NestedKey × List PyData) → Option (List (NestedKey × List PyData))
  | [], acc => some acc
  | .tuple [row, lot] :: r, acc => (ixD row (.int 0)).bind fun t => (m_spans_of [wd, t]).bind fun sp => (itemsD sp).bind fun sps => (winsAdd (.tuple [row, lot]) sps acc).bind fun acc' => winsGo wd r acc'
  | _ :: _, _ => none
def m_in_windows : List PyData → Option PyData
  | [.tuple (.str k :: w), .list rows] => if decide (k = "session") then none else (winsGo (.tuple (.str k :: w)) rows []).bind fun g => some (ndlD g)
  | _ => none
def g_summed : G :=
    sSeq (sIf (tB (e2 opEq (eVar 0) (eC (.str "count")))) (sRet (e1 sumD (eFz (lComp (iDat (eVar 1)) [3, 4] (aTup [aName, aName]) [3, 4] (tYes) (eVar 4))))) (sNext))
    (sSeq (sIf (tB (e2 opEq (eVar 0) (eC (.str "sum")))) (sRet (e1 sumD (eFz (lComp (iDat (eVar 1)) [3, 4] (aTup [aName, aName]) [3, 4] (tB (e2 opIsNot (eVar 3) (eC .none))) (e2 opMul (eVar 3) (eVar 4)))))) (sNext))
    (eNo))
def m_summed : List PyData → Option PyData := runF 2 7 g_summed
def g_sums_of : G :=
    sSeq (sSetV 4 (vL (lDisp (aNil))))
    (sSeq (sFor (iItems (eCall m_by_keys (aCons (eVar 0) (aCons (e2 ixD (eVar 1) (eC (.int 2))) (aCons (eVar 3) (aNil)))))) [5, 6] (aTup [aName, aName]) (sFor (iItems (eCall m_in_windows (aCons (e2 ixD (eVar 1) (eC (.int 3))) (aCons (eVar 6) (aNil))))) [7, 8, 9] (aTup [aTup [aName, aName], aName]) (sIf (tOr (tB (e2 opLe (eVar 8) (eVar 2))) (tB (e2 opEq (eVar 2) (eC (.int 1000000000))))) (sSeq (sSetV 10 (vL (lDisp (aNil))))
    (sSeq (sFor (iDat (e2 ixD (eVar 1) (eC (.int 4)))) [11, 12, 13] (aTup [aName, aName, aName]) (sApp 10 (eCall m_summed (aCons (eVar 12) (aCons (eFz (lComp (iDat (eVar 9)) [14, 15] (aTup [aName, aName]) [14, 15] (tYes) (eTup (aCons (eCall m_worth (aCons (eVar 0) (aCons (eVar 13) (aCons (e2 ixD (eVar 14) (eC (.int 2))) (aNil))))) (aCons (e2 ixD (eVar 14) (eC (.int 1))) (aNil)))))) (aNil))))))
    (sApp 4 (eTup (aCons (eTup (aCons (e2 opSub (eVar 8) (eC (.int 1))) (aCons (eC (.int 1)) (aCons (eTup (aStar (eVar 5) (aCons (eVar 7) (aCons (eVar 8) (aStar (eVar 10) (aNil)))))) (aNil))))) (aCons (eCall m_together (aCons (eFz (lComp (iDat (eVar 9)) [14, 15] (aTup [aName, aName]) [14, 15] (tYes) (eVar 15))) (aNil))) (aNil))))))) (sNext))))
    (sRet (eVar 4)))
def m_sums_of : List PyData → Option PyData := runF 4 16 g_sums_of
def g_of_step : G :=
    sSeq (sSetV 5 (vD (eCall m_step_of (aCons (eVar 0) (aCons (eVar 1) (aNil))))))
    (sSeq (sSetV 6 (vD (eFz (lComp (iDat (eCall m_steps_ahead (aCons (eVar 0) (aCons (eVar 1) (aNil))))) [15] (aName) [15] (tYes) (e2 ixD (eVar 4) (eVar 15))))))
    (sSeq (sSetV 7 (vD (eFz (lComp (iDat (eCall m_steps_ahead (aCons (eVar 0) (aCons (eVar 1) (aNil))))) [15] (aName) [15] (tYes) (eCall m_columns_of (aCons (eVar 0) (aCons (eVar 15) (aNil))))))))
    (sSeq (sIf (tB (e2 opEq (e2 ixD (eVar 5) (eC (.int 0))) (eC (.str "source")))) (sRet (eCall m_of_source (aCons (eVar 1) (aCons (e2 ixD (eVar 2) (eVar 1)) (aNil))))) (sNext))
    (sSeq (sIf (tB (e2 opEq (e2 ixD (eVar 5) (eC (.int 0))) (eC (.str "keep")))) (eNo) (sNext))
    (sSeq (sIf (tB (e2 opEq (e2 ixD (eVar 5) (eC (.int 0))) (eC (.str "make")))) (eNo) (sNext))
    (sSeq (sIf (tB (e2 opEq (e2 ixD (eVar 5) (eC (.int 0))) (eC (.str "both")))) (sRet (eFz (lAdd (e2 ixD (eVar 4) (e2 ixD (eVar 5) (eC (.int 1)))) (e2 ixD (eVar 4) (e2 ixD (eVar 5) (eC (.int 2))))))) (sNext))
    (sSeq (sIf (tB (e2 opEq (e2 ixD (eVar 5) (eC (.int 0))) (eC (.str "sum")))) (sRet (eCall m_sums_of (aCons (e2 ixD (eVar 7) (eC (.int 0))) (aCons (eVar 5) (aCons (eVar 3) (aCons (e2 ixD (eVar 6) (eC (.int 0))) (aNil))))))) (sNext))
    (eNo))))))))
def m_of_step : List PyData → Option PyData := runF 5 19 g_of_step
def g_rows_with_lots : G :=
    sSeq (sPar 2 3 (vD (eCall m_marks_of (aCons (eVar 0) (aCons (eVar 1) (aNil))))) (vK))
    (sSeq (sFor (iDat (e1 (slT none (some (-1))) (eVar 0))) [4, 5] (aTup [aName, aName]) (sPutK 3 (eVar 4) (eLend 3 (eCall m_of_step (aCons (eVar 0) (aCons (eVar 4) (aCons (eVar 1) (aCons (e2 ixD (eVar 2) (eVar 4)) (aCons (eVar 3) (aNil))))))))))
    (sRet (eFz (lSort m_lam (e2 ixD (eVar 3) (eCall m_out_of (aCons (eVar 0) (aNil))))))))
def m_rows_with_lots : List PyData → Option PyData := runF 2 6 g_rows_with_lots
def g_meaning : G :=
    sRet (eCall m_bag_of (aCons (eFz (lComp (iDat (eCall m_rows_with_lots (aCons (eVar 0) (aCons (eVar 1) (aNil))))) [2, 3] (aTup [aName, aName]) [2, 3] (tYes) (eVar 2))) (aNil)))
def m_meaning : List PyData → Option PyData := runF 2 4 g_meaning
def g_whole : G :=
    sSeq (sSetV 2 (vD (dComp (iItems (eVar 1)) [3, 4] (aTup [aName, aName]) [3, 4] (eVar 3) (e1 tupD (eFz (lComp (iDat (eVar 4)) [5] (aName) [5] (tYes) (eTup (aStar (eVar 5) (aCons (eTup (aCons (eC (.str "mark")) (aCons (eC (.int 1000000000)) (aNil)))) (aNil))))))))))
    (sRet (eCall m_meaning (aCons (eVar 0) (aCons (eVar 2) (aNil)))))
def m_whole : List PyData → Option PyData := runF 2 6 g_whole
def g_law_rank : G :=
    sSeq (sIf (tB (e2 opIs (eVar 0) (eC .none))) (sRet (eTup (aCons (eC (.int 0)) (aCons (eC (.int 0)) (aCons (eC (.str "")) (aNil)))))) (sNext))
    (sRet (eIf (tB (e1 isInt (eVar 0))) (eTup (aCons (eC (.int 1)) (aCons (eVar 0) (aCons (eC (.str "")) (aNil))))) (eTup (aCons (eC (.int 2)) (aCons (eC (.int 0)) (aCons (eVar 0) (aNil)))))))
def m_law_rank : List PyData → Option PyData := runF 1 1 g_law_rank
/-- the cells, the next one first: what is left, filled up -/
def fillS : List Int → Int → List Int × Int
  | [], l => ([], l)
  | c :: r, l => if l < 2 then fillS r c else (c :: r, l)
def pickI (most : Int) (S : Src) : Int × Src :=
  if most < 2 then (0, S) else
  let q := fillS S.cells S.left
  if q.2 > 1 then (q.2 % most, ⟨q.1, q.2 / most, S.mixed, S.turn⟩) else
  let lap := S.turn + 1
  let a := (S.mixed + lap * 104729) % 998244353
  let b := (a * a + lap * 17) % 2147483647
  (b / 16 % most, ⟨q.1, q.2, S.mixed, lap⟩)
def m_law_pick : List PyData → Src → Option (PyData × Src)
  | [.int most], S => if decide (most < 1073741824) then some (.int (pickI most S).1, (pickI most S).2) else none
  | _, _ => none
def stirI : List Int → Int → Int
  | [], s => s
  | c :: r, s => stirI r ((s * 69069 + c * 31 + 5) % 2147483629)
def openS (ns : List Int) : Src := ⟨ns.map fun n => if n < 0 then -n else n, 1, stirI ns 11, 0⟩
def g_law_bag : G :=
    sSeq (sSetV 1 (vN))
    (sSeq (sFor (iDat (eVar 0)) [2] (aName) (sPutN 1 (eVar 2) (e2 opAdd (eGetN 1 (eVar 2) (eC (.int 0))) (eC (.int 1)))))
    (sRet (eVar 1)))
def m_law_bag : List PyData → Option PyData := runF 1 3 g_law_bag
def g_law_any_order : G :=
    sSeq (sSetV 2 (vL (lList (eVar 1))))
    (sRet (eFz (lComp (iRange (eLenO 2)) [3] (aName) [3] (tYes) (ePopO 2 (eCallS 0 m_law_pick (aCons (eLenO 2) (aNil)))))))
def m_law_any_order : List PyData → Src → Option (PyData × Src) := runS 2 4 g_law_any_order
def g_law_ranks : G :=
    sRet (e1 tupD (eFz (lComp (iDat (eVar 0)) [1] (aName) [1] (tYes) (eCall m_law_rank (aCons (eVar 1) (aNil))))))
def m_law_ranks : List PyData → Option PyData := runF 1 2 g_law_ranks
def g_law_tally : G :=
    sSeq (sIf (tB (e2 opEq (eVar 0) (eC (.str "count")))) (sRet (e1 sumD (eFz (lComp (iDat (eVar 1)) [4, 5] (aTup [aName, aName]) [4, 5] (tYes) (eVar 5))))) (sNext))
    (sSeq (sPar 2 3 (vD (eFz (lComp (iDat (eVar 1)) [4, 5] (aTup [aName, aName]) [4, 5] (tB (e2 opIsNot (eVar 4) (eC .none))) (eTup (aCons (eVar 4) (aCons (eVar 5) (aNil))))))) (vD (eC (.dict []))))
    (sSeq (sIf (tB (e2 opEq (eVar 0) (eC (.str "sum")))) (sRet (e1 sumD (eFz (lComp (iDat (eVar 2)) [4, 5] (aTup [aName, aName]) [4, 5] (tYes) (e2 opMul (eVar 5) (eVar 4)))))) (sNext))
    (eNo)))
def m_law_tally : List PyData → Option PyData := runF 2 6 g_law_tally
def g_law_tell : G :=
    sSeq (sIf (tB (e2 opIn (eVar 0) (eTup (aCons (eC (.str "count")) (aCons (eC (.str "sum")) (aNil)))))) (sRet (eVar 1)) (sNext))
    (eNo)
def m_law_tell : List PyData → Option PyData := runF 2 5 g_law_tell
def g_law_given_rank : G :=
    sRet (eTup (aCons (e2 ixD (eVar 0) (eC (.int 0))) (aCons (e2 ixD (eVar 0) (eC (.int 1))) (aCons (eCall m_law_ranks (aCons (e2 ixD (eVar 0) (eC (.int 2))) (aNil))) (aNil)))))
def m_law_given_rank : List PyData → Option PyData := runF 1 1 g_law_given_rank
def g_law_windows_at : G :=
    sSeq (sIf (tB (e2 opEq (e2 ixD (eVar 0) (eC (.int 0))) (eC (.str "even")))) (sSeq (sSetV 2 (vD (e2 opSub (eVar 1) (e2 opMod (e1 intD (eVar 1)) (e2 ixD (eVar 0) (eC (.int 1)))))))
    (sRet (eFz (lDisp (aCons (eTup (aCons (eVar 2) (aCons (e2 opAdd (eVar 2) (e2 ixD (eVar 0) (eC (.int 1)))) (aNil)))) (aNil)))))) (sNext))
    (eNo)
def m_law_windows_at : List PyData → Option PyData := runF 2 4 g_law_windows_at
def g_law_sums_of : G :=
    sSeq (sSetV 2 (vD (eFz (lComp (iDat (eVar 1)) [3, 4] (aTup [aName, aName]) [3, 4] (tYes) (eTup (aCons (eVar 3) (aCons (eFz (lComp (iDat (eVar 0)) [5] (aName) [5] (tYes) (eTup (aCons (e2 ixD (e2 ixD (eVar 5) (eC (.int 2))) (eVar 4)) (aCons (e2 ixD (eVar 5) (eC (.int 1))) (aNil)))))) (aNil))))))))
    (sRet (e1 tupD (eFz (lComp (iDat (eVar 2)) [3, 6] (aTup [aName, aName]) [3, 6] (tYes) (eCall m_law_tell (aCons (eVar 3) (aCons (eCall m_law_tally (aCons (eVar 3) (aCons (eVar 6) (aNil)))) (aNil))))))))
def m_law_sums_of : List PyData → Option PyData := runF 2 7 g_law_sums_of
def g_law_sum_rows : G :=
    sSeq (sPar 5 6 (vD (eFz (lDisp (aNil)))) (vL (lDisp (aNil))))
    (sSeq (sFor (iDat (eVar 0)) [7] (aName) (sSeq (sSetV 8 (vD (e1 tupD (eFz (lComp (iDat (eVar 1)) [14] (aName) [14] (tYes) (e2 ixD (e2 ixD (eVar 7) (eC (.int 2))) (eVar 14)))))))
    (sSetV 5 (vD (eIf (tB (e2 opIn (eVar 8) (eVar 5))) (eVar 5) (eFz (lAdd (eVar 5) (eFz (lDisp (aCons (eVar 8) (aNil)))))))))))
    (sSeq (sFor (iDat (eVar 5)) [8] (aName) (sSeq (sSetV 9 (vD (eFz (lComp (iDat (eVar 0)) [7] (aName) [7] (tB (e2 opEq (e1 tupD (eFz (lComp (iDat (eVar 1)) [14] (aName) [14] (tYes) (e2 ixD (e2 ixD (eVar 7) (eC (.int 2))) (eVar 14))))) (eVar 8))) (eVar 7)))))
    (sSeq (sSetV 10 (vD (eIf (tB (e2 opEq (e2 ixD (eVar 2) (eC (.int 0))) (eC (.str "session")))) (eNo) (eFz (lDisp (aNil))))))
    (sSeq (sFor (iDat (eVar 9)) [7] (aName) (sIf (tB (e2 opNe (e2 ixD (eVar 2) (eC (.int 0))) (eC (.str "session")))) (sSetV 10 (vD (eFz (lAdd (eVar 10) (eFz (lComp (iDat (eCall m_law_windows_at (aCons (eVar 2) (aCons (e2 ixD (eVar 7) (eC (.int 0))) (aNil))))) [15] (aName) [15] (tB (e2 opNotIn (eVar 15) (eVar 10))) (eVar 15))))))) (sNext)))
    (sFor (iDat (eVar 10)) [11, 12] (aTup [aName, aName]) (sIf (tOr (tB (e2 opLe (eVar 12) (eVar 4))) (tB (e2 opEq (eVar 4) (e2 opPow (eC (.int 10)) (eC (.int 9)))))) (sSeq (sSetV 13 (vD (eFz (lComp (iDat (eVar 9)) [7] (aName) [7] (tB (eChain opLe opLt (eVar 11) (e2 ixD (eVar 7) (eC (.int 0))) (eVar 12))) (eVar 7)))))
    (sApp 6 (eTup (aCons (e2 opSub (eVar 12) (eC (.int 1))) (aCons (eC (.int 1)) (aCons (e2 opAdd (e2 opAdd (eVar 8) (eTup (aCons (eVar 11) (aCons (eVar 12) (aNil))))) (eCall m_law_sums_of (aCons (eVar 13) (aCons (eVar 3) (aNil))))) (aNil))))))) (sNext)))))))
    (sRet (eFz (lSort m_law_given_rank (eVar 6))))))
def m_law_sum_rows : List PyData → Option PyData := runF 5 16 g_law_sum_rows
def g_law_draw_rows : G :=
    sSeq (sSetV 3 (vL (lDisp (aNil))))
    (sSeq (sFor (iRange (eVar 1)) [4] (aName) (sSeq (sSetV 5 (vD (eTup (aCons (e2 ixD (eFz (lDisp (aCons (eC .none) (aCons (eC (.str "a")) (aCons (eC (.str "b")) (aCons (eC (.str "c")) (aNil))))))) (eCallS 0 m_law_pick (aCons (eC (.int 4)) (aNil)))) (aCons (e2 ixD (eFz (lDisp (aCons (eC .none) (aCons (eC (.int 0)) (aCons (eC (.int 3)) (aCons (e2 opSub (eC (.int 0)) (eC (.int 5))) (aCons (eC (.int 3)) (aCons (e2 opPow (eC (.int 10)) (eC (.int 11))) (aNil))))))))) (eCallS 0 m_law_pick (aCons (eC (.int 6)) (aNil)))) (aNil))))))
    (sSeq (sApp 3 (eTup (aCons (e2 opAdd (eVar 2) (eCallS 0 m_law_pick (aCons (eC (.int 20)) (aNil)))) (aCons (e2 ixD (eFz (lDisp (aCons (eC (.int 1)) (aCons (eC (.int 1)) (aCons (e2 opSub (eC (.int 0)) (eC (.int 1))) (aNil)))))) (eCallS 0 m_law_pick (aCons (eC (.int 3)) (aNil)))) (aCons (eVar 5) (aNil))))))
    (sIf (tB (e2 opEq (eCallS 0 m_law_pick (aCons (eC (.int 4)) (aNil))) (eC (.int 0)))) (sSeq (sSet [6, 7, 5] (aTup [aName, aName, aName]) (eIxO 3 (eCallS 0 m_law_pick (aCons (eLenO 3) (aNil)))))
    (sApp 3 (eTup (aCons (eVar 6) (aCons (e2 opSub (eC (.int 0)) (eVar 7)) (aCons (eVar 5) (aNil))))))) (sNext)))))
    (sRet (eVar 3)))
def m_law_draw_rows : List PyData → Src → Option (PyData × Src) := runS 3 8 g_law_draw_rows
def g_law_draw_marks : G :=
    sSeq (sPar 2 3 (vL (lDisp (aNil))) (vD (eCallS 0 m_law_any_order (aCons (eVar 1) (aNil)))))
    (sSeq (sFor (iEnum (eVar 3)) [4, 5] (aTup [aName, aName]) (sSeq (sIf (tB (e2 opEq (eCallS 0 m_law_pick (aCons (eC (.int 3)) (aNil))) (eC (.int 0)))) (sSeq (sSetV 6 (vD (e1 minD (eFz (lComp (iDat (eFz (lFrom (eVar 3) (eVar 4)))) [10] (aName) [10] (tYes) (e2 ixD (eVar 10) (eC (.int 0))))))))
    (sApp 2 (eTup (aCons (eC (.str "mark")) (aCons (eCallS 0 m_law_pick (aCons (e2 opAdd (eVar 6) (eC (.int 1))) (aNil))) (aNil)))))) (sNext))
    (sApp 2 (eTup (aCons (eC (.str "row")) (aCons (eVar 5) (aNil)))))))
    (sSeq (sPar 7 8 (vD (eFz (lDisp (aNil)))) (vD (eC (.int 0))))
    (sSeq (sFor (iDat (eVar 2)) [9] (aName) (sIf (tOr (tB (e2 opEq (e2 ixD (eVar 9) (eC (.int 0))) (eC (.str "row")))) (tB (e2 opGt (e2 ixD (eVar 9) (eC (.int 1))) (eVar 8)))) (sPar 7 8 (vD (eFz (lAdd (eVar 7) (eFz (lDisp (aCons (eVar 9) (aNil))))))) (vD (eIf (tB (e2 opEq (e2 ixD (eVar 9) (eC (.int 0))) (eC (.str "mark")))) (e2 ixD (eVar 9) (eC (.int 1))) (eVar 8)))) (sNext)))
    (sRet (eVar 7)))))
def m_law_draw_marks : List PyData → Src → Option (PyData × Src) := runS 2 11 g_law_draw_marks
def g_law_draw_entries : G :=
    sSeq (sSetV 2 (vL (lDisp (aNil))))
    (sSeq (sFor (iDat (eCallS 0 m_law_draw_marks (aCons (eVar 1) (aNil)))) [3] (aName) (sApp 2 (eIf (tB (e2 opEq (e2 ixD (eVar 3) (eC (.int 0))) (eC (.str "mark")))) (eTup (aCons (eC (.str "mark")) (aCons (e2 ixD (eVar 3) (eC (.int 1))) (aNil)))) (e2 opAdd (eTup (aCons (eC (.str "row")) (aNil))) (e2 ixD (eVar 3) (eC (.int 1)))))))
    (sRet (e1 tupD (eVar 2))))
def m_law_draw_entries : List PyData → Src → Option (PyData × Src) := runS 2 4 g_law_draw_entries
def g_law_mark_of : G :=
    sSeq (sSetV 1 (vD (eFz (lComp (iDat (eVar 0)) [2] (aName) [2] (tYes) (e1 maxD (eFz (lAdd (eFz (lDisp (aCons (eC (.int 0)) (aNil)))) (eFz (lComp (iDat (eVar 2)) [3] (aName) [3] (tB (e2 opEq (e2 ixD (eVar 3) (eC (.int 0))) (eC (.str "mark")))) (e2 ixD (eVar 3) (eC (.int 1))))))))))))
    (sRet (e1 minD (eFz (lAdd (eVar 1) (eFz (lDisp (aCons (e2 opPow (eC (.int 10)) (eC (.int 9))) (aNil))))))))
def m_law_mark_of : List PyData → Option PyData := runF 1 4 g_law_mark_of
def g_law_draw_queries : G :=
    sSeq (sPar 1 2 (vD (eTup (aCons (eTup (aCons (eC (.str "who")) (aCons (eC (.str "text")) (aNil)))) (aCons (eTup (aCons (eC (.str "n")) (aCons (eC (.str "number")) (aNil)))) (aNil))))) (vL (lDisp (aNil))))
    (sSeq (sFor (iRange (e2 opAdd (eC (.int 1)) (eCallS 0 m_law_pick (aCons (eC (.int 2)) (aNil))))) [3] (aName) (sApp 2 (eTup (aCons (e2 ixD (eFz (lDisp (aCons (eC (.str "count")) (aCons (eC (.str "sum")) (aNil))))) (eCallS 0 m_law_pick (aCons (eC (.int 2)) (aNil)))) (aCons (eC (.int 1)) (aNil))))))
    (sSeq (sSetV 4 (vD (e1 tupD (eFz (lComp (iRange (e1 lenD (eVar 2))) [11] (aName) [11] (tYes) (eTup (aCons (e2 ixD (eC (.str "ab")) (eVar 11)) (aCons (e2 ixD (e2 ixD (eVar 2) (eVar 11)) (eC (.int 0))) (aCons (eTup (aCons (eC (.str "column")) (aCons (eC (.str "n")) (aNil)))) (aNil))))))))))
    (sSeq (sSetV 5 (vD (e1 tupD (eFz (lComp (iRange (e1 lenD (eVar 2))) [11] (aName) [11] (tYes) (eTup (aCons (e2 ixD (eC (.str "ab")) (eVar 11)) (aCons (eC (.str "sum")) (aCons (eTup (aCons (eC (.str "column")) (aCons (e2 ixD (eC (.str "ab")) (eVar 11)) (aNil)))) (aNil))))))))))
    (sSeq (sPar 6 7 (vD (e2 ixD (eFz (lDisp (aCons (eTup (aNil)) (aCons (eTup (aCons (eC (.str "who")) (aNil))) (aNil))))) (eCallS 0 m_law_pick (aCons (eC (.int 2)) (aNil))))) (vD (eTup (aCons (eC (.str "even")) (aCons (e2 opAdd (eC (.int 1)) (eCallS 0 m_law_pick (aCons (eC (.int 9)) (aNil)))) (aNil))))))
    (sSeq (sSetV 8 (vD (eTup (aCons (eTup (aCons (eC (.str "x")) (aCons (eTup (aCons (eC (.str "source")) (aCons (eVar 1) (aNil)))) (aNil)))) (aCons (eTup (aCons (eC (.str "y")) (aCons (eTup (aCons (eC (.str "source")) (aCons (eVar 1) (aNil)))) (aNil)))) (aNil))))))
    (sSeq (sSetV 9 (vD (e2 opAdd (eVar 8) (eTup (aCons (eTup (aCons (eC (.str "z")) (aCons (eTup (aCons (eC (.str "both")) (aCons (eC (.str "x")) (aCons (eC (.str "y")) (aNil))))) (aNil)))) (aCons (eTup (aCons (eC (.str "s")) (aCons (eTup (aCons (eC (.str "sum")) (aCons (eC (.str "z")) (aCons (eVar 6) (aCons (eVar 7) (aCons (eVar 4) (aNil))))))) (aNil)))) (aCons (eTup (aCons (eC (.str "out")) (aCons (eC (.str "s")) (aNil)))) (aNil))))))))
    (sSeq (sSetV 10 (vD (e2 opAdd (eVar 8) (eTup (aCons (eTup (aCons (eC (.str "f")) (aCons (eTup (aCons (eC (.str "sum")) (aCons (eC (.str "x")) (aCons (eVar 6) (aCons (eVar 7) (aCons (eVar 4) (aNil))))))) (aNil)))) (aCons (eTup (aCons (eC (.str "g")) (aCons (eTup (aCons (eC (.str "sum")) (aCons (eC (.str "y")) (aCons (eVar 6) (aCons (eVar 7) (aCons (eVar 4) (aNil))))))) (aNil)))) (aNil)))))))
    (sSeq (sSetV 10 (vD (e2 opAdd (eVar 10) (eTup (aCons (eTup (aCons (eC (.str "z")) (aCons (eTup (aCons (eC (.str "both")) (aCons (eC (.str "f")) (aCons (eC (.str "g")) (aNil))))) (aNil)))) (aCons (eTup (aCons (eC (.str "s")) (aCons (eTup (aCons (eC (.str "sum")) (aCons (eC (.str "z")) (aCons (eVar 6) (aCons (eVar 7) (aCons (eVar 5) (aNil))))))) (aNil)))) (aCons (eTup (aCons (eC (.str "out")) (aCons (eC (.str "s")) (aNil)))) (aNil))))))))
    (sRet (eTup (aCons (eFz (lDisp (aCons (eVar 9) (aCons (eVar 10) (aNil))))) (aCons (eVar 6) (aCons (eVar 7) (aCons (eVar 2) (aNil)))))))))))))))
def m_law_draw_queries : List PyData → Src → Option (PyData × Src) := runS 1 12 g_law_draw_queries
def g_law : G :=
    sSeq (sFor (iRange (eC (.int 2))) [2] (aName) (sSeq (sSet [3, 4, 5, 6] (aTup [aName, aName, aName, aName]) (eCallS 1 m_law_draw_queries (aNil)))
    (sSeq (sSetV 7 (vD (e1 tupD (eFz (lComp (iDat (eVar 6)) [14, 15] (aTup [aName, aName]) [14, 15] (tYes) (eVar 14))))))
    (sSeq (sIf (tOr (tB (e2 opIsNot (eCall m_can_part (aCons (eVar 7) (aNil))) (eC (.bool true)))) (tB (e2 opNe (eCall m_second_hows (aCons (eVar 7) (aNil))) (e2 opMul (eTup (aCons (eC (.str "sum")) (aNil))) (e1 lenD (eVar 6)))))) (sRet (eC (.bool false))) (sNext))
    (sSeq (sSetV 8 (vD (eFz (lComp (iRange (eC (.int 3))) [16] (aName) [16] (tYes) (eCallS 1 m_law_draw_rows (aCons (eCallS 1 m_law_pick (aCons (eC (.int 6)) (aNil))) (aCons (eC (.int 0)) (aNil))))))))
    (sSeq (sSetV 9 (vD (eFz (lComp (iDat (eVar 8)) [17] (aName) [17] (tYes) (eCallS 1 m_law_draw_entries (aCons (eVar 17) (aNil)))))))
    (sSeq (sSetV 10 (vD (eDisp [("x", eTup (aCons (e2 ixD (eVar 9) (eC (.int 0))) (aCons (e2 ixD (eVar 9) (eC (.int 1))) (aNil)))), ("y", eTup (aCons (e2 ixD (eVar 9) (eC (.int 2))) (aNil)))])))
    (sSeq (sPar 11 12 (vD (e2 min2 (eCall m_law_mark_of (aCons (e2 ixD (eVar 10) (eC (.str "x"))) (aNil))) (eCall m_law_mark_of (aCons (e2 ixD (eVar 10) (eC (.str "y"))) (aNil))))) (vD (eFz (lAdd (eFz (lAdd (e2 ixD (eVar 8) (eC (.int 0))) (e2 ixD (eVar 8) (eC (.int 1))))) (e2 ixD (eVar 8) (eC (.int 2)))))))
    (sSeq (sSetV 13 (vD (eCall m_law_bag (aCons (eCall m_law_sum_rows (aCons (eVar 12) (aCons (eFz (lRep (lDisp (aCons (eC (.int 0)) (aNil))) (e1 lenD (eVar 4)))) (aCons (eVar 5) (aCons (eVar 6) (aCons (eVar 11) (aNil))))))) (aNil)))))
    (sSeq (sIf (tB (e2 opNe (eFz (lComp (iDat (eVar 3)) [18] (aName) [18] (tYes) (e2 ixD (eCall m_marks_of (aCons (eVar 18) (aCons (eVar 10) (aNil)))) (eC (.str "s"))))) (eFz (lDisp (aCons (eVar 11) (aCons (eVar 11) (aNil))))))) (sRet (eC (.bool false))) (sNext))
    (sSeq (sIf (tB (e2 neBags (eFz (lComp (iDat (eVar 3)) [18] (aName) [18] (tYes) (eCall m_meaning (aCons (eVar 18) (aCons (eVar 10) (aNil)))))) (eFz (lDisp (aCons (eVar 13) (aCons (eVar 13) (aNil))))))) (sRet (eC (.bool false))) (sNext))
    (sSeq (sSetV 13 (vD (eCall m_law_bag (aCons (eCall m_law_sum_rows (aCons (eVar 12) (aCons (eFz (lRep (lDisp (aCons (eC (.int 0)) (aNil))) (e1 lenD (eVar 4)))) (aCons (eVar 5) (aCons (eVar 6) (aCons (e2 opPow (eC (.int 10)) (eC (.int 9))) (aNil))))))) (aNil)))))
    (sIf (tB (e2 neBags (eFz (lComp (iDat (eVar 3)) [18] (aName) [18] (tYes) (eCall m_whole (aCons (eVar 18) (aCons (eVar 10) (aNil)))))) (eFz (lDisp (aCons (eVar 13) (aCons (eVar 13) (aNil))))))) (sRet (eC (.bool false))) (sNext))))))))))))))
    (sRet (eAnd (e2 opIs (eCall m_can_part (aCons (eTup (aCons (eC (.str "count")) (aCons (eC (.str "least")) (aNil)))) (aNil))) (eC (.bool false))) (e2 opIs (eCall m_can_part (aCons (eTup (aCons (eC (.str "greatest")) (aNil))) (aNil))) (eC (.bool false)))))
def lawE (S : Src) : DEnv := ⟨[.un, .src, .un, .un, .un, .un, .un, .un, .un, .un, .un, .un, .un, .un, .un, .un, .un, .un, .un], some S⟩
def m_law (ns : List Int) : Option PyData := (g_law (lawE (openS ns))).bind fun p => match p.1 with
  | .ret d => some d
  | _ => none
end Dl
end
section
set_option Elab.async false
set_option linter.all false
set_option autoImplicit false
set_option maxRecDepth 100000
set_option maxHeartbeats 4000000
/-! SetE3: the set in the abstract heap; add; sorted. -/
namespace Dl
open PySem PySem.Spec PyProof.Rows L2
open PySem.W (EachIs AllAlike Sortable dataLe keyToks keyToksAll)
/-! ### entries as data -/
def keyData : Key → PyData
  | .inl i => .int i
  | .inr x => .str x
def entD (k : List Key) : PyData := .tuple (k.map keyData)
theorem keyData_inj {a b : Key} (h : keyData a = keyData b) : a = b := by
  cases a <;> cases b <;> simp_all [keyData]
theorem map_inj {α β : Type} {f : α → β} (hf : ∀ a b, f a = f b → a = b) : ∀ {xs ys : List α}, xs.map f = ys.map f → xs = ys
  | [], [], _ => rfl
  | [], _ :: _, h => by simp at h
  | _ :: _, [], h => by simp at h
  | x :: xs, y :: ys, h => by
    rw [List.map_cons, List.map_cons] at h
    injection h with h1 h2
    rw [hf _ _ h1, map_inj hf h2]
theorem entD_inj {a b : List Key} (h : entD a = entD b) : a = b := by
  injection h with h
  exact map_inj (fun _ _ => keyData_inj) h
theorem toks_flat : ∀ {a b : List Key}, keyToksAll (a.map keyData) = keyToksAll (b.map keyData) → a = b
  | [], [], _ => rfl
  | [], y :: b, h => by
    rw [List.map_nil, List.map_cons, keyToksAll, keyToksAll] at h
    simp at h
  | x :: a, [], h => by
    rw [List.map_nil, List.map_cons, keyToksAll, keyToksAll] at h
    simp at h
  | x :: a, y :: b, h => by
    rw [List.map_cons, List.map_cons, keyToksAll, keyToksAll] at h
    injection h with _ h
    cases x <;> cases y <;> simp only [keyData, keyToks, List.singleton_append, List.cons_append, List.nil_append, List.cons.injEq, Sum.inl.injEq, Sum.inr.injEq, reduceCtorEq, false_and] at h
    · rw [h.1, toks_flat h.2]
    · rename_i u v
      have e : u = v := by
        have z := h.1
        cases u
        cases v
        simpa using z
      rw [e, toks_flat h.2]
theorem toks_ent {a b : List Key} (h : keyToks (entD a) = keyToks (entD b)) : a = b := by
  unfold entD at h
  rw [keyToks, keyToks] at h
  exact toks_flat h
theorem le_anti {a b : List Key} (h1 : dataLe false (fun d : PyData => d) (entD a) (entD b) = true) (h2 : dataLe false (fun d : PyData => d) (entD b) (entD a) = true) : entD a = entD b := by
  have z1 : (PyProof.Rows.listOrd PyProof.Rows.itemOrd).blt (keyToks (entD b)) (keyToks (entD a)) = false := by simpa [dataLe, PySem.W.sortLe] using h1
  have z2 : (PyProof.Rows.listOrd PyProof.Rows.itemOrd).blt (keyToks (entD a)) (keyToks (entD b)) = false := by simpa [dataLe, PySem.W.sortLe] using h2
  rw [toks_ent ((PyProof.Rows.listOrd PyProof.Rows.itemOrd).total _ _ z2 z1)]
theorem sort_perm {as bs : List (List Key)} (h : as.Perm bs) : (as.map entD).mergeSort (dataLe false fun d => d) = (bs.map entD).mergeSort (dataLe false fun d => d) := by
  have tot := PySem.W.sortLe_total (PyProof.Rows.listOrd PyProof.Rows.itemOrd) false fun d : PyData => keyToks d
  refine List.Perm.eq_of_pairwise (le := fun a b => dataLe false (fun d : PyData => d) a b = true) (fun a b ha hb h1 h2 => ?_) (PySem.W.sort_pairwise tot _) (PySem.W.sort_pairwise tot _) ((List.mergeSort_perm _ _).trans ((h.map entD).trans (List.mergeSort_perm _ _).symm))
  obtain ⟨x, _, rfl⟩ := List.mem_map.mp ((List.mergeSort_perm _ _).mem_iff.mp ha)
  obtain ⟨y, _, rfl⟩ := List.mem_map.mp ((List.mergeSort_perm _ _).mem_iff.mp hb)
  exact le_anti h1 h2
/-! ### the set -/
def SetOK (P : Program) (w : World) (a : Addr) (D : List Ent) (h : Heap) : Prop := ∃ L rows ep tb, SetE P w h a L rows ep tb ∧ (∀ e ∈ L, e ∈ D) ∧ (∀ e ∈ D, e.2 ∈ L.map (·.2)) ∧ L.length ≤ D.length
def SetEO (P : Program) (w : World) (a : Addr) (D : List Ent) : HO := .ext (SetOK P w a D)
theorem setE_obj {P : Program} {w : World} {Hn : Hp} {h : Heap} {a : Addr} {D : List Ent} (R : SetOK P w a D h) : ObjOk P w Hn h a (SetEO P w a D) := by
  have ⟨L, rows, ep, tb, S0, _⟩ := R
  have ⟨o, ho, r⟩ := S0.obj
  refine ⟨R, ⟨o, ho⟩, fun h1 h2 p k => ?_⟩
  obtain ⟨L, rows, ep, tb, S, q1⟩ := p
  obtain ⟨o2, e2, r2⟩ := S.obj
  exact ⟨L, rows, ep, tb, ⟨⟨o2, k o2 e2, r2⟩, S.eq, S.tab, S.one, S.led, S.free, S.few⟩, q1⟩
theorem setE_fresh {P : Program} {w : World} {h : Heap} {a : Addr} (ho : h.get? a = some { cls := .type "set", dict := none, data := .set #[] 0 (.fresh 0 0 (!w.params.followText "set-order")) }) : SetOK P w a [] h := by
  refine ⟨[], #[], 0, .fresh 0 0 (!w.params.followText "set-order"), ⟨⟨_, ho, ⟨rfl, rfl, rfl⟩, rfl⟩, rfl, ⟨List.Pairwise.nil, rfl, rfl, .inl rfl, fun x hx => (by cases hx), fun i h j hi => (by simp [eHs] at hi)⟩, List.nodup_nil, ?_, ?_, ?_⟩, (fun _ h => nomatch h), (fun _ h => nomatch h), Nat.le_refl _⟩
  · show _ ∨ (!w.params.followText "set-order") = true
    cases w.params.followText "set-order"
    · exact .inr rfl
    · exact .inl rfl
  · show 0 * 5 < 7 * 3
    decide
  · show 0 < 64
    decide
section
variable {X : Cx} {pins : List (Addr × Obj)} {σ : L2.St} {H H' : Hp} {s : Shared}
theorem flat_items (I : Inv X pins σ H s) : ∀ {k : List Key} {xs : List V} {us : List Value}, AtAll X.prog X.w H xs (k.map keyData) → Vals xs us → ItemsAre (mixKind X.prog X.w) k us
  | [], _, _, .nil, .nil => .nil
  | .inl i :: k, _, _, .cons a r, .cons q1 q2 => by
    rw [a.int_inv] at q1
    obtain ⟨t, rfl⟩ := q1
    exact .cons (mixKind_int _ _ i t) (flat_items I r q2)
  | .inr x :: k, _, _, .cons a r, .cons q1 q2 => by
    rw [a.str_inv] at q1
    obtain ⟨t, rfl⟩ := q1
    exact .cons (mixKind_str _ _ x t) (flat_items I r q2)
theorem at_isE (I : Inv X pins σ H s) {b : Addr} {k : List Key} (a : At X.prog X.w H (.ref b) (entD k)) : IsE X.prog X.w s.heap k b := by
  have go : ∀ {xs : List V}, (∃ its, Vals xs its ∧ ∃ o, s.heap.get? b = some o ∧ o.cls = .type "tuple" ∧ ∃ n, o.data = .seq its.toArray n) → AtAll X.prog X.w H xs (k.map keyData) → IsE X.prog X.w s.heap k b := fun {xs} ⟨its, rv, o, e1, e2, n, e3⟩ ax => ⟨o, its.toArray, n, e1, e2, e3, by simpa using flat_items I ax rv⟩
  cases a with
  | tup h1 _ h2 =>
    obtain ⟨_, its, rv, o, e1, e2, n, e3⟩ := I.hok _ _ h1
    exact go ⟨its, rv, o, e1, e2, n, e3⟩ h2
  | tupP h1 _ h2 =>
    obtain ⟨_, _, its, rv, o, e1, e2, n, e3⟩ := I.hok _ _ h1
    exact go ⟨its, rv, o, e1, e2, n, e3⟩ h2
theorem addE_ok {E : Value → Shared → Prop} {a x : Addr} {k : List Key} {D : List Ent} {Q : Value → Shared → Prop} (I : Inv X pins σ H s) (ha : H a = some (SetEO X.prog X.w a D)) (hD : ∀ e ∈ D, At X.prog X.w H (.ref e.1) (entD e.2)) (hx : At X.prog X.w H (.ref x) (entD k)) (few : D.length + 1 < 64) (hu : X.A.units + 8 < cLine)
    (q : ∀ s2, Inv X pins σ (upd H a (SetEO X.prog X.w a (D ++ [(x, k)]))) s2 → Q .none s2) : wpAny (model X.prog X.w) X.A (call (.builtin "set.add") [.ref a, .ref x]) Q E s := by
  have R : SetOK X.prog X.w a D s.heap := (I.hok a _ ha).1
  obtain ⟨L, rows, ep, tb, S, l1, l2, l3⟩ := R
  obtain ⟨o, o1, o2, o3⟩ := S.obj
  have xe := at_isE I hx
  refine wpAny_call_entry F.slot_set_add ⟨o, o1, o2.1⟩ F.entry_set_add ?_ (F.args_set_add_2 _ _)
  unfold Builtin.«set.add» Builtin.Frozenset.oneOther
  simp only [List.isEmpty_nil, bind_assoc]
  unfold Builtin.Frozenset.addrOf setAdd
  refine wpAny_bind (wpAny_pure ?_)
  try dsimp only
  refine wpAny_bind (wpAny_pure ?_)
  try dsimp only
  refine wpAny_bind (wpAny_holding (wpAny_bind (wpAny_pyHash_tuple (by show X.A.units + 1 < cLine; omega) xe ?_)))
  refine ent_add (s := { s with toks := s.toks + (k.length + 1) }) S (fun e he => at_isE I (hD e (l1 e he))) xe (by show X.A.units + 1 < cLine; omega) (by omega) fun c h2 L2 rows2 ep2 tb2 sb S2 c1 c2 => ?_
  have mem : ∀ e ∈ L2, e ∈ D ++ [(x, k)] := fun e he => by
    by_cases z : k ∈ L.map (·.2)
    · rw [c1 z] at he
      exact List.mem_append_left _ (l1 e he)
    · rcases List.mem_cons.mp ((c2 z).mem_iff.mp he) with rfl | he
      · exact List.mem_append_right _ List.mem_cons_self
      · exact List.mem_append_left _ (l1 e he)
  have all : ∀ e ∈ D ++ [(x, k)], e.2 ∈ L2.map (·.2) := fun e he => by
    by_cases z : k ∈ L.map (·.2)
    · rw [c1 z]
      rcases List.mem_append.mp he with he | he
      · exact l2 e he
      · rw [List.mem_singleton.mp he]
        exact z
    · refine (((c2 z).map (·.2)).mem_iff).mpr ?_
      rw [List.map_cons]
      rcases List.mem_append.mp he with he | he
      · exact List.mem_cons_of_mem _ (l2 e he)
      · rw [List.mem_singleton.mp he]
        exact List.mem_cons_self
  have len : L2.length ≤ (D ++ [(x, k)]).length := by
    rw [List.length_append, List.length_singleton]
    by_cases z : k ∈ L.map (·.2)
    · rw [c1 z]
      omega
    · rw [(c2 z).length_eq, List.length_cons]
      omega
  obtain ⟨ob2, g1, _⟩ := S2.obj
  show wpAny _ _ (ret Value.none) _ _ _
  exact wpAny_pure ⟨_, rfl, q _ (I.write (e := a) (t' := s.toks + (k.length + 1)) (by rw [ha]; trivial) (.inl rfl) (fun b u hb hu => (sb.2 b hb).trans hu) ⟨ob2, g1⟩ (setE_obj ⟨L2, rows2, ep2, tb2, S2, mem, all, len⟩))⟩
end
end Dl
end
section
set_option Elab.async false
set_option linter.all false
set_option autoImplicit false
set_option maxRecDepth 100000
set_option maxHeartbeats 4000000
/-! SetE4: {elt for .. in .. for .. in ..}, the entries put into a set. -/
namespace Dl
open PySem PySem.Spec PyProof.Rows L2
/-- the display's text -/
abbrev SC2 (e t0 i0 t1 i1 : Expr) (sc : Scope) (ps : Pos) : Expr := .SetComp e [⟨t0, i0, [], 0⟩, ⟨t1, i1, [], 0⟩] sc ps
theorem turn_first (e t0 i0 t1 i1 : Expr) (sc : Scope) (ps : Pos) (j D : Value) (v : Env) : compTurn (SC2 e t0 i0 t1 i1 sc ps) 0 j D v = (do
    standAt i0.pos
    match ← pyNext j with
    | none => pure (.done .next)
    | some y =>
      letOwnedTupleGo t0 j y
      assign t0 v y
      let mut ok := true
      for c in ([] : List Expr) do
        if ok then ok ← isTrue c v (eval c v)
      if ok then
        let y ← eval i1 v
        standAt i1.pos
        let y ← foldedSetIterable i1 v y
        let _ ← runOwn (.compStart (SC2 e t0 i0 t1 i1 sc ps) 1 (← holding [y] (pyIter y)) D v) v
      again (.compLoop (SC2 e t0 i0 t1 i1 sc ps) 0 j D v)) := by rfl
theorem turn_second (e t0 i0 t1 i1 : Expr) (sc : Scope) (ps : Pos) (j D : Value) (v : Env) : compTurn (SC2 e t0 i0 t1 i1 sc ps) 1 j D v = (do
    standAt i1.pos
    match ← pyNext j with
    | none => pure (.done .next)
    | some y =>
      letOwnedTupleGo t1 j y
      assign t1 v y
      let mut ok := true
      for c in ([] : List Expr) do
        if ok then ok ← isTrue c v (eval c v)
      if ok then
        (do let y ← eval e v; standAt e.pos; let _ ← call (.builtin "set.add") [D, y])
      again (.compLoop (SC2 e t0 i0 t1 i1 sc ps) 1 j D v)) := by rfl
section
variable {prog : Program} {w : World} {A : Around} {R : Result → Shared → Prop} {s : Shared} {e t0 i0 t1 i1 : Expr} {sc : Scope} {ps : Pos} {j D : Value} {v : Env}
abbrev Noted (prog : Program) (w : World) (A : Around) (v : Env) (R : Result → Shared → Prop) : Value → Shared → Prop := notedBy (model prog w) A v fun x s2 => R (.error x) s2
theorem loop_first (fold : ∀ x, foldedSetIterable i1 v x = pure x) (Inn : Nat → Shared → Prop)
    (turn : ∀ n s, Inn n s → wpAny (model prog w) A (pyNext j) (fun r s1 => match r with
      | none => R (.ok .next) s1
      | some y => wpAny (model prog w) A (letOwnedTupleGo t0 j y) (fun _ s2 => wpAny (model prog w) A (assign t0 v y) (fun _ s3 =>
          wpAny (model prog w) A (eval i1 v) (fun y s4 => wpAny (model prog w) A (pyIter y) (fun j1 s5 =>
            codeAny (model prog w) A (.compStart (SC2 e t0 i0 t1 i1 sc ps) 1 j1 D v) (fun r s6 => match r with
              | .ok _ => ∃ m, m < n ∧ Inn m s6
              | .error _ => False) s5) (Noted prog w A v R) s4) (Noted prog w A v R) s3) (Noted prog w A v R) s2) (Noted prog w A v R) s1) (Noted prog w A v R) s) (n : Nat) (h : Inn n s) : codeAny (model prog w) A (.compLoop (SC2 e t0 i0 t1 i1 sc ps) 0 j D v) R s := by
  refine codeAny_loop rfl Inn (fun n s hI => ?_) n h
  show wpAny _ A ((compTurn (SC2 e t0 i0 t1 i1 sc ps) 0 j D v).onRaise (fun x => do noteFrame x v; theTreesLotGoes x)) _ _ s
  refine wpAny_noted ?_
  rw [turn_first]
  refine wpAny_bind (wpAny_standAt (wpAny_bind (wpAny_mono (turn n s hI) (fun r s1 h1 => ?_) fun _ _ z => z)))
  cases r with
  | none => exact wpAny_pure h1
  | some y =>
    refine wpAny_bind (wpAny_mono h1 (fun _ s2 h2 => wpAny_bind (wpAny_mono h2 (fun _ s3 h3 => ?_) fun _ _ z => z)) fun _ _ z => z)
    refine wpAny_bind (wpAny_pure ?_)
    simp only [if_true]
    refine wpAny_bind (wpAny_mono h3 (fun y s4 h4 => ?_) fun _ _ z => z)
    refine wpAny_bind (wpAny_standAt (wpAny_bind (wpAny_of_eq (fold y) (wpAny_bind (wpAny_holding (wpAny_mono h4 (fun j1 s5 h5 => ?_) fun _ _ z => z))))))
    refine wpAny_bind (wpAny_runOwn ?_)
    rw [Around.mark_none]
    refine codeAny_mono h5 fun r s6 hr => ?_
    cases r with
    | ok f =>
      first
        | exact wpAny_pure ⟨rfl, hr⟩
        | exact wpAny_bind (wpAny_pure (wpAny_pure ⟨rfl, hr⟩))
    | error x => exact hr.elim
theorem loop_second (Inn : Nat → Shared → Prop)
    (turn : ∀ n s, Inn n s → wpAny (model prog w) A (pyNext j) (fun r s1 => match r with
      | none => R (.ok .next) s1
      | some y => wpAny (model prog w) A (letOwnedTupleGo t1 j y) (fun _ s2 => wpAny (model prog w) A (assign t1 v y) (fun _ s3 => wpAny (model prog w) A (eval e v) (fun y s4 =>
          wpAny (model prog w) A (call (.builtin "set.add") [D, y]) (fun _ s5 => ∃ m, m < n ∧ Inn m s5) (Noted prog w A v R) s4) (Noted prog w A v R) s3) (Noted prog w A v R) s2) (Noted prog w A v R) s1) (Noted prog w A v R) s) (n : Nat) (h : Inn n s) : codeAny (model prog w) A (.compLoop (SC2 e t0 i0 t1 i1 sc ps) 1 j D v) R s := by
  refine codeAny_loop rfl Inn (fun n s hI => ?_) n h
  show wpAny _ A ((compTurn (SC2 e t0 i0 t1 i1 sc ps) 1 j D v).onRaise (fun x => do noteFrame x v; theTreesLotGoes x)) _ _ s
  refine wpAny_noted ?_
  rw [turn_second]
  refine wpAny_bind (wpAny_standAt (wpAny_bind (wpAny_mono (turn n s hI) (fun r s1 h1 => ?_) fun _ _ z => z)))
  cases r with
  | none => exact wpAny_pure h1
  | some y =>
    refine wpAny_bind (wpAny_mono h1 (fun _ s2 h2 => wpAny_bind (wpAny_mono h2 (fun _ s3 h3 => ?_) fun _ _ z => z)) fun _ _ z => z)
    refine wpAny_bind (wpAny_pure ?_)
    simp only [if_true]
    exact wpAny_bind (wpAny_bind (wpAny_mono h3 (fun y s4 h4 => wpAny_bind (wpAny_standAt (wpAny_bind (wpAny_mono h4 (fun _ s5 h5 => wpAny_pure (wpAny_pure ⟨rfl, h5⟩)) fun _ _ z => z)))) fun _ _ z => z))
theorem start_second (h0 : codeAny (model prog w) A (.compLoop (SC2 e t0 i0 t1 i1 sc ps) 1 j D v) R s) (h : wpAny (model prog w) A (pyIter j) (fun j2 s2 => codeAny (model prog w) A (.compLoop (SC2 e t0 i0 t1 i1 sc ps) 1 j2 D v) R s2) (Noted prog w A v R) s) :
    codeAny (model prog w) A (.compStart (SC2 e t0 i0 t1 i1 sc ps) 1 j D v) R s := by
  refine codeAny_of_tree ?_
  show wpAny _ _ ((compStart (SC2 e t0 i0 t1 i1 sc ps) 1 j D v).onRaise (fun x => do noteFrame x v; standAt theWindowsPlace)) _ _ s
  refine wpAny_notedAt ?_
  unfold compStart
  show wpAny _ _ (ask >>= _) _ _ s
  refine wpAny_bind (wpAny_askSetting (wpAny_ite ?_))
  split
  · first
      | exact wpAny_bind (wpAny_pure (wpAny_pure (And.intro rfl h0)))
      | exact wpAny_pure (And.intro rfl h0)
  · first
      | exact wpAny_bind (wpAny_rule (wpAny_bind (wpAny_standAt (wpAny_bind (wpAny_mono h (fun j2 s2 z => wpAny_pure (And.intro rfl z)) fun _ _ z => z)))))
      | (refine wpAny_bind (wpAny_rule ?_); show wpAny _ _ (standAt i1.pos >>= _) _ _ s; exact wpAny_bind (wpAny_standAt (wpAny_bind (wpAny_mono h (fun j2 s2 z => wpAny_pure (And.intro rfl z)) fun _ _ z => z))))
end
end Dl
end
section
set_option Elab.async false
set_option linter.all false
set_option autoImplicit false
set_option maxRecDepth 100000
set_option maxHeartbeats 4000000
/-! SetE5: the set display of two clauses as an expression. -/
namespace Dl
open PySem PySem.Spec PyProof.Rows L2
section
variable {X : Cx}
/-- the second clause's loop: from Inn to Nx, each entry put into the set at D -/
def tIn2 (P : Program) (w : World) (D : Addr) (g1 : TG) (te : TE) (v1 : List Nat) (τ : L2.St) (Nx : Hp → Prop) (J1 : It) (H1 : Hp) : Prop := ∃ W1 : Nat → Nat → Hp → Prop, (∃ m, W1 0 m H1) ∧ ∀ j n G, W1 j n G →
  (J1.stop j G ∧ Nx G) ∨ (J1.go j G ∧ ∃ Ny : Hp → Prop, (∀ G', Ny G' → ∃ n', n' < n ∧ W1 (j + 1) n' G') ∧ ∀ x G', J1.yld j G x G' → g1 x (wipe τ v1) G' fun υ G2 => wipe υ v1 = wipe τ v1 ∧
    te υ G2 fun y G3 => ∃ (x : Addr) (k : List Key) (M : List Ent), y = .ref x ∧ G3 D = some (SetEO P w D M) ∧ (∀ q ∈ M, At P w G3 (.ref q.1) (entD q.2)) ∧ At P w G3 (.ref x) (entD k) ∧ M.length + 1 < 64 ∧ Ny (upd G3 D (SetEO P w D (M ++ [(x, k)]))))
def tSc2 (P : Program) (w : World) (wi : TI) (g : TG) (wi1 : TI) (g1 : TG) (te : TE) (vs v1 : List Nat) : TE := fun σ H Q => wi σ H fun J H1 => ∀ D, H1 D = none → ∃ W : Nat → Nat → Hp → Prop, (∃ m, W 0 m (upd H1 D (SetEO P w D []))) ∧ ∀ i n G, W i n G →
  (J.stop i G ∧ Q (.ref D) G) ∨ (J.go i G ∧ ∃ Nx : Hp → Prop, (∀ G', Nx G' → ∃ n', n' < n ∧ W (i + 1) n' G') ∧ ∀ x G', J.yld i G x G' → g x (wipe σ vs) G' fun τ G2 => wipe τ vs = wipe σ vs ∧ wi1 τ G2 fun J1 G3 => tIn2 P w D g1 te v1 τ Nx J1 G3)
theorem pe_sc2 {e t0 i0 t1 i1 : Expr} {sc : Scope} {own : List (Str × Nat)} {v1 : List Nat} {ps : Pos} {wi wi1 : TI} {g g1 : TG} {te : TE} (calm : X.calm = true) (nd : X.N.Nodup) (p0 : PI X t0 i0 wi) (ok : BlkOk X.N X.env.scope sc own) (sub : ∀ i ∈ v1, i ∈ own.map (·.2))
    (p1 : ∀ (s : Shared) (H : Hp) (C : Addr) (cl : List (Str × Addr)) (fp : List Addr), PG (Blk X sc s H C cl fp) t0 g) (p2 : ∀ (s : Shared) (H : Hp) (C : Addr) (cl : List (Str × Addr)) (fp : List Addr), PI (Blk X sc s H C cl fp) t1 i1 wi1)
    (p3 : ∀ (s : Shared) (H : Hp) (C : Addr) (cl : List (Str × Addr)) (fp : List Addr), PG (Blk X sc s H C cl fp) t1 g1) (p4 : ∀ (s : Shared) (H : Hp) (C : Addr) (cl : List (Str × Addr)) (fp : List Addr), PE (Blk X sc s H C cl fp) e te)
    (room : X.A.units + 8 < cLine) (f0 : ∀ x, foldedSetIterable i0 X.env x = pure x := by intro _; rfl) (f1 : ∀ v x, foldedSetIterable i1 v x = pure x := by intro _ _; rfl) : PE X (SC2 e t0 i0 t1 i1 sc ps) (tSc2 X.prog X.w wi g wi1 g1 te (own.map (·.2)) v1) := by
  refine ⟨fun pins s σ H Q I want => ?_⟩
  rw [PpSet.eval_SetComp]
  have cells : ∀ y ∈ sc.names, y.2 = .free → ∃ c, X.env.cells.lookup y.1 = some c := fun y hy z => (ok.free y hy z).elim (fun k => I.ok.has _ (.inl k)) fun k => I.ok.has _ (.inr k)
  refine wpAny_comprehension_free (use := none) rfl f0 (closure_ok cells) ok.kind (fun y hy z => by rw [ok.uniq y hy, z]) (thn (p0.run pins s σ H _ I want) fun _ sa ha => thn ha fun _ sb hb => ?_)
  obtain ⟨it, ft, tn, J, H1, rfl, Ib, T, st0, fb, more⟩ := hb
  refine PpSet.newSet_ok (newEnv_comp ?_)
  generalize hD : sb.heap.objs.size = D
  have noD : H1 D = none := Ib.hok.fresh (Nat.le_of_eq hD)
  obtain ⟨W, ⟨n0, w0⟩, turns⟩ := more D noD
  generalize hsc : ({ sb with heap := sb.heap.push { cls := .type "set", dict := none, data := .set #[] 0 (.fresh 0 0 (!X.w.params.followText "set-order")) } } : Shared) = s3
  have hz : s3.heap = sb.heap.push { cls := .type "set", dict := none, data := .set #[] 0 (.fresh 0 0 (!X.w.params.followText "set-order")) } := by rw [← hsc]
  have I3 : Inv X pins σ (upd H1 D (SetEO X.prog X.w D [])) s3 := by
    rw [← hsc]
    refine Ib.laid (t' := sb.toks) (fun b o k => Heap.get?_push_of_some _ k) (Nat.le_of_eq hD) (setE_obj ?_)
    rw [← hD]
    exact setE_fresh (Heap.get?_push_size _ rfl)
  have old : ∀ b ∈ ft, b < sb.heap.objs.size := fun b hb => let ⟨o, k, _⟩ := T.obj _ _ st0 b hb; Heap.lt_size k
  have fine : ∀ b ∈ ft, FpOk X pins (upd H1 D (SetEO X.prog X.w D [])) b ∧ b < s3.heap.objs.size := fun b hb => by
    have lt := old b hb
    refine ⟨⟨?_, (fb b hb).2⟩, by rw [hz, Heap.size_push]; exact Nat.lt_succ_of_lt lt⟩
    rw [upd_ne (by rw [← hD]; exact Nat.ne_of_lt lt)]
    exact (fb b hb).1
  have st1 : tn 0 s3.heap := T.keep _ _ _ st0 fun b _ o k => by rw [hz]; exact Heap.get?_push_of_some _ k
  have I4 := block_start I3 ok nd fine
  have q1 := p1 s3 (upd H1 D (SetEO X.prog X.w D [])) s3.heap.objs.size (cellsFrom (s3.heap.objs.size + 1) sc.names (cloFrom X.env.cells sc.names [])) ft
  have q2 := p2 s3 (upd H1 D (SetEO X.prog X.w D [])) s3.heap.objs.size (cellsFrom (s3.heap.objs.size + 1) sc.names (cloFrom X.env.cells sc.names [])) ft
  have q3 := p3 s3 (upd H1 D (SetEO X.prog X.w D [])) s3.heap.objs.size (cellsFrom (s3.heap.objs.size + 1) sc.names (cloFrom X.env.cells sc.names [])) ft
  have q4 := p4 s3 (upd H1 D (SetEO X.prog X.w D [])) s3.heap.objs.size (cellsFrom (s3.heap.objs.size + 1) sc.names (cloFrom X.env.cells sc.names [])) ft
  unfold Blk at q1 q2 q3 q4
  show codeAny _ _ (.compStart (.SetComp e [⟨t0, i0, [], 0⟩, ⟨t1, i1, [], 0⟩] sc ps) 0 (.ref it) (.ref D) (compEnvC sc (cellsFrom (s3.heap.objs.size + 1) sc.names (cloFrom X.env.cells sc.names [])) s3.heap.objs.size X.env)) (compPost (model X.prog X.w) X.A X.xe none _ (.ref D) s3.heap.objs.size) { s3 with heap := pushCells (s3.heap.push { cls := .type "dict", data := .dict #[] }) sc.names }
  have none0 : ∀ b ∈ ft, (upd H1 D (SetEO X.prog X.w D [])) b = none := fun b hb => (fine b hb).1.1
  generalize henv : compEnvC sc (cellsFrom (s3.heap.objs.size + 1) sc.names (cloFrom X.env.cells sc.names [])) s3.heap.objs.size X.env = ev at I4 q1 q2 q3 q4 ⊢
  have evL : ev.locals = s3.heap.objs.size := by subst henv; rfl
  generalize hHd : upd H1 D (SetEO X.prog X.w D []) = Hd at I3 I4 q1 q2 q3 q4 w0 none0 fine
  generalize hs4 : ({ s3 with heap := pushCells (s3.heap.push { cls := .type "dict", data := .dict #[] }) sc.names } : Shared) = s4 at I4 ⊢
  have st2 : tn 0 s4.heap := T.keep _ _ _ st1 fun b _ o k => by rw [← hs4]; exact pushCells_keeps _ _ _ _ (Heap.get?_push_of_some _ k)
  let Y := X.blk s3 Hd sc ev ft
  let vs := own.map (·.2)
  have inert : ∀ {τ : L2.St} {G : Hp} {u : Shared}, Inv Y [] τ G u → (∀ b ∈ ft, G b = none) → ∀ b ∈ ft, FpOk Y [] G b := fun {τ G u} Iu hn b hb =>
    ⟨hn b hb, (Iu.ok.exf b hb).1, Iu.ok.exfs b hb, .inl hb, fun x c k => (Iu.ok.exf b hb).2 x c k, fun p hp => absurd (show p ∈ ([] : List (Addr × Obj)) ++ [] from hp) (by simp)⟩
  let Inn : Nat → Shared → Prop := fun n u => ∃ i G, Inv Y [] (wipe σ vs) G u ∧ tn i u.heap ∧ (∀ b ∈ ft, G b = none) ∧ W i n G
  have loop : codeAny (model X.prog X.w) X.A (.compLoop (SC2 e t0 i0 t1 i1 sc ps) 0 (.ref it) (.ref D) ev) (compPost (model X.prog X.w) X.A X.xe none (EP X pins σ Q) (.ref D) s3.heap.objs.size) s4 := by
    refine loop_first (f1 ev) Inn ?_ n0 ⟨0, Hd, I4, st2, none0, w0⟩
    rintro n s5 ⟨i, G5, I5, st5, no5, w5⟩
    rcases turns i n G5 w5 with ⟨stop, done⟩ | ⟨go, Nx, next, step⟩
    · refine thnF (T.done Y rfl rfl rfl calm i [] s5 _ G5 (fun _ _ => False) I5 (inert I5 no5) st5 stop) fun r s6 ⟨hr, I6⟩ => ?_
      subst hr
      have I7 : Inv X pins σ G5 s6 := I3.call' (ch := ft) I6.os I6.base I6.hok I6.bare fun b hb => let z := (fine b hb).1.2; ⟨z.2.2.1, z.1, z.2.2.2.1, z.2.2.2.2⟩
      have noC : G5 s3.heap.objs.size = none := by
        have z : G5 ev.locals = none := I6.free
        rw [evL] at z
        exact z
      obtain ⟨m, hm, _⟩ := I6.loc
      have hm : s6.heap.Ns ev.locals m := hm
      rw [evL] at hm
      obtain ⟨a0, a1, a2, a3, a4, a5⟩ := I3.fpOk (b := s3.heap.objs.size) (Nat.le_refl _) noC
      exact ⟨m, hm, fun h2 sb2 => ⟨.ref D, G5, I7.turned (t' := s6.toks) (fun b o hb k => (sb2.2 b hb).trans k) noC a1 a3 a4 a5, rfl, done⟩⟩
    · refine thnF (T.item Y rfl rfl rfl calm i [] s5 _ G5 (fun _ _ => False) I5 (inert I5 no5) st5 go) fun r s6 ⟨u, hr, h6⟩ => ?_
      subst hr
      refine thnF h6 fun _ s7 ⟨x, G7, I7, r7, y7, st7, no7⟩ => ?_
      have I7p := I7.pinned (inert I7 no7) (T.obj _ _ st7)
      refine thnF (q1.run _ s7 _ G7 x u _ I7p r7 (step x G7 y7)) fun _ s8 ⟨τ, G8, I8, wτ, q8⟩ => ?_
      refine thnF (q2.run _ s8 τ G8 _ I8 q8) fun xv s9 hx => thnF hx fun jv s10 h10 => ?_
      obtain ⟨jt, fj, tj, J1, G10, rfl, I10, T1, st10, f10, W1, ⟨m1, v0⟩, turns1⟩ := h10
      have inert1 : ∀ {G : Hp}, (∀ b ∈ fj, G b = none) → ∀ b ∈ fj, FpOk Y ([] ++ pinsAt ft s7.heap) G b := fun hn b hb => ⟨hn b hb, (f10 b hb).2⟩
      have inner : codeAny (model X.prog X.w) X.A (.compLoop (SC2 e t0 i0 t1 i1 sc ps) 1 (.ref jt) (.ref D) ev) (fun r s2 => match r with
          | .ok _ => ∃ m, m < n ∧ Inn m s2
          | .error _ => False) s10 := by
        refine loop_second (fun k u => ∃ j G, Inv Y ([] ++ pinsAt ft s7.heap) (wipe τ v1) G u ∧ tj j u.heap ∧ (∀ b ∈ fj, G b = none) ∧ W1 j k G) ?_ m1 ⟨0, G10, I10.weak (wipe_length _ _) (fun j v k => (wipe_some k).1), st10, fun b hb => (f10 b hb).1, v0⟩
        rintro k s12 ⟨j, G12, I12, st12, no12, v12⟩
        rcases turns1 j k G12 v12 with ⟨stop1, nx⟩ | ⟨go1, Ny, next1, step1⟩
        · refine thnF (T1.done Y rfl rfl rfl calm j _ s12 (wipe τ v1) G12 (fun _ _ => False) I12 (inert1 no12) st12 stop1) fun r s13 ⟨hr, I13⟩ => ?_
          subst hr
          obtain ⟨m, lt, wm⟩ := next G12 nx
          have held : ∀ b ∈ ft, ∀ o, s7.heap.get? b = some o → s13.heap.get? b = some o ∧ G12 b = none := fun b hb o k =>
            let z := I13.pin (b, o) (List.mem_append_right _ (List.mem_append_right _ (mem_pinsAt hb k)))
            ⟨z.1, z.2.1⟩
          refine ⟨m, lt, i + 1, G12, (I13.unpinned (pins := [])).weak ?_ (fun j v k => ?_), T.keep _ _ _ st7 fun b hb o k => (held b hb o k).1, fun b hb => ?_, wm⟩
          · have z := congrArg List.length wτ
            rw [wipe_length, wipe_length] at z
            rw [wipe_length, wipe_length]
            exact z.symm
          · rw [← wτ] at k
            obtain ⟨k1, k2⟩ := wipe_some k
            rw [wipe_out fun z => k2 (sub j z)]
            exact k1
          · obtain ⟨o, k, _⟩ := T.obj _ _ st7 b hb
            exact (held b hb o k).2
        · refine thnF (T1.item Y rfl rfl rfl calm j _ s12 (wipe τ v1) G12 (fun _ _ => False) I12 (inert1 no12) st12 go1) fun r s13 ⟨u1, hr, h13⟩ => ?_
          subst hr
          refine thnF h13 fun _ s14 ⟨x1, G14, I14, r14, y14, st14, no14⟩ => ?_
          have I14p := I14.pinned (inert1 no14) (T1.obj _ _ st14)
          refine thnF (q3.run _ s14 (wipe τ v1) G14 x1 u1 _ I14p r14 (step1 x1 G14 y14)) fun _ s15 ⟨υ, G15, I15, wυ, q15⟩ => ?_
          refine thnF (q4.run _ s15 υ G15 _ I15 q15) fun z s16 ⟨yv, G16, I16, r16, xa, kk, M, ey, hM, aM, aX, few, ny⟩ => ?_
          subst ey
          obtain rfl : z = Value.ref xa := r16
          refine addE_ok (X := Y) I16 hM aM aX few room fun s17 I17 => ?_
          obtain ⟨m, lt, wm⟩ := next1 _ ny
          have held : ∀ b ∈ fj, ∀ o, s14.heap.get? b = some o → s17.heap.get? b = some o ∧ upd G16 D (SetEO X.prog X.w D (M ++ [(xa, kk)])) b = none := fun b hb o k =>
            let z := I17.pin (b, o) (List.mem_append_right _ (List.mem_append_right _ (mem_pinsAt hb k)))
            ⟨z.1, z.2.1⟩
          refine ⟨m, lt, j + 1, _, I17.unpinned.weak (by rw [← wυ, wipe_length]) (fun j v k => by rw [← wυ] at k; exact (wipe_some k).1), T1.keep _ _ _ st14 fun b hb o k => (held b hb o k).1, fun b hb => ?_, wm⟩
          obtain ⟨o, k, _⟩ := T1.obj _ _ st14 b hb
          exact (held b hb o k).2
      exact start_second inner (T1.self X.A 0 _ _ _ st10 inner)
  exact PpSet.codeAny_compStart_set loop (T.self X.A 0 _ _ _ st2 loop)
end
end Dl
end
section
set_option Elab.async false
set_option linter.all false
set_option autoImplicit false
set_option maxRecDepth 100000
set_option maxHeartbeats 4000000
/-! Pick: _law_pick, by hand. -/
namespace Dl
open PySem PySem.Spec PyProof.Rows L2
def srcK (c : Addr) (l m t : Int) : List (Key × V) := [(.inr "cells", .ref c), (.inr "left", .int l), (.inr "mixed", .int m), (.inr "turn", .int t)]
theorem srcAt_of {H : Hp} {a c : Addr} {S : Src} : SrcAt H a c S ↔ H a = some (.dK (srcK c S.left S.mixed S.turn)) ∧ H c = some (.lst (S.cells.reverse.map V.int)) := Iff.rfl
theorem put_left {c : Addr} {l m t v : Int} : putK (srcK c l m t) (.inr "left") (.int v) = srcK c v m t := by kernel_rfl
theorem put_turn {c : Addr} {l m t v : Int} : putK (srcK c l m t) (.inr "turn") (.int v) = srcK c l m v := by kernel_rfl
theorem val_cells {c : Addr} {l m t : Int} : valV (srcK c l m t) (.inr "cells") = some (.ref c) := by kernel_rfl
theorem val_left {c : Addr} {l m t : Int} : valV (srcK c l m t) (.inr "left") = some (.int l) := by kernel_rfl
theorem val_mixed {c : Addr} {l m t : Int} : valV (srcK c l m t) (.inr "mixed") = some (.int m) := by kernel_rfl
theorem val_turn {c : Addr} {l m t : Int} : valV (srcK c l m t) (.inr "turn") = some (.int t) := by kernel_rfl
theorem src_ne {H : Hp} {a c : Addr} {S : Src} (h : SrcAt H a c S) : a ≠ c := fun e => by
  have h1 := h.1
  rw [e, h.2] at h1
  cases h1
/-- all but a and c stands -/
def Other (a c : Addr) (H H' : Hp) : Prop := (∀ b o, H b = some o → b ≠ a → b ≠ c → H' b = some o) ∧ ∀ b, H' b = none → H b = none
theorem Other.refl {a c : Addr} (H : Hp) : Other a c H H := ⟨fun _ _ h _ _ => h, fun _ h => h⟩
theorem Other.upd {a c b : Addr} {H H' : Hp} {o u : HO} (h : Other a c H H') (hb : b = a ∨ b = c) (hu : H' b = some u) : Other a c H (upd H' b o) := by
  refine ⟨fun x y hx n1 n2 => ?_, fun x hx => h.2 x ?_⟩
  · rw [upd_ne (by rcases hb with rfl | rfl <;> assumption)]
    exact h.1 x y hx n1 n2
  · by_cases e : x = b
    · rw [e, upd_same] at hx
      cases hx
    · rw [upd_ne e] at hx
      exact hx
theorem src_upd_a {H : Hp} {a c : Addr} {S S' : Src} (h : SrcAt H a c S) (e : S'.cells = S.cells) : SrcAt (upd H a (.dK (srcK c S'.left S'.mixed S'.turn))) a c S' := by
  refine ⟨upd_same, ?_⟩
  rw [upd_ne (src_ne h).symm, e]
  exact h.2
theorem get_at {H : Hp} {a c : Addr} {S : Src} {x : Str} {v : V} (h : SrcAt H a c S) (hv : valV (srcK c S.left S.mixed S.turn) (.inr x) = some v) : DGet H a (.str x) (some v) := .inl ⟨_, .inr x, .inl h.1, rfl, hv.symm⟩
abbrev nPick : List Str := ["_law_source", "_law_most", "_law_cells", "_law_others", "_law_lap", "_law_stirred"]
theorem sc_pick : FnScope nPick ["_law_source", "_law_most"] (defScope (top 48)) := ⟨rfl, rfl, rfl, by decide +kernel, rfl, by decide +kernel, by decide +kernel⟩
theorem fill_rev (S : Src) : (S.cells.reverse.map V.int)[(S.cells.reverse.map V.int).length - 1]? = (S.cells.map V.int)[0]? := by
  rw [List.map_reverse, ← List.getLast?_eq_getElem?, List.getLast?_reverse, List.head?_eq_getElem?]
abbrev tGet (x : Str) : TE := tDGet (tVar 0) (tC (.str x))
abbrev rMd : R2 := rI (fun _ j => 0 < j) fun i j => .int (i % j)
abbrev rAd : R2 := rI0 fun i j => .int (i + j)
abbrev rMl : R2 := rI CMul fun i j => .int (i * j)
abbrev rDv : R2 := rI CDiv fun i j => .int (i / j)
abbrev rIn : List V → Hp → VK → Prop := fun xs H Q => (∃ i, xs = [.int i] ∧ Q (.int i) H) ∨ ∃ k, xs = [.bl k] ∧ Q (.int (if k then 1 else 0)) H
abbrev tIn (t : TE) : TE := tCB rIn (tCons t tNil)
def tPickEnd : TS :=
  tSeq (tAsg (tGet "left") (gName 3))
  (tSeq (tIfS (tTest (tOp (rI0 fun i j => .bl (decide (j < i))) (tVar 3) (tC (.int 1)))) (tSeq (sDPut (tVar 0) (tC (.str "left")) (tOp rDv (tVar 3) (tVar 1))) (tRet (tOp rMd (tIn (tVar 3)) (tVar 1)))) tNext)
  (tSeq (sDPut (tVar 0) (tC (.str "turn")) (tOp rAd (tGet "turn") (tC (.int 1))))
  (tSeq (tAsg (tGet "turn") (gName 4))
  (tSeq (tAsg (tOp rMd (tIn (tOp rAd (tGet "mixed") (tOp rMl (tVar 4) (tC (.int 104729))))) (tC (.int 998244353))) (gName 5))
  (tSeq (tAsg (tOp rMd (tIn (tOp rAd (tOp rMl (tVar 5) (tVar 5)) (tOp rMl (tVar 4) (tC (.int 17))))) (tC (.int 2147483647))) (gName 5))
  (tRet (tOp rMd (tIn (tOp rDv (tVar 5) (tC (.int 16)))) (tVar 1))))))))
/-- what the loop leaves, and the answer -/
def fillEnd (most : Int) (q : List Int × Int) (S : Src) : Int × Src :=
  if q.2 > 1 then (q.2 % most, ⟨q.1, q.2 / most, S.mixed, S.turn⟩) else
  let lap := S.turn + 1
  let a := (S.mixed + lap * 104729) % 998244353
  let b := (a * a + lap * 17) % 2147483647
  (b / 16 % most, ⟨q.1, q.2, S.mixed, lap⟩)
theorem pickI_eq {most : Int} {S : Src} (h : ¬ most < 2) : pickI most S = fillEnd most (fillS S.cells S.left) S := by
  unfold pickI fillEnd
  rw [if_neg h]
theorem pick_after {P : Program} {w : World} {H H' : Hp} {a c : Addr} {S S' : Src} {most : Int} {Q : VK} {nx : L2.St → Hp → Prop} (hs : SrcAt H' a c S') (ot : Other a c H H') (h2 : ¬ most < 2) (hlim : most < 1073741824) (hend : S'.left < 2 → S'.cells = []) (hf : fillS S'.cells S'.left = fillS S.cells S.left) (hmix : S'.mixed = S.mixed) (hturn : S'.turn = S.turn)
    (k : ∀ v H', (∀ b o, H b = some o → b ≠ a → b ≠ c → H' b = some o) → (∀ b, H' b = none → H b = none) → SrcAt H' a c (fillEnd most (fillS S.cells S.left) S).2 → At P w H' v (.int (fillEnd most (fillS S.cells S.left) S).1) → Q v H') :
    tPickEnd { nx := nx, rt := Q } [some (.ref a), some (.int most), some (.ref c), none, none, none] H' := by
  have hq : fillS S.cells S.left = (S'.cells, S'.left) := by
    rw [← hf]
    cases hc : S'.cells with
    | nil => rfl
    | cons x r =>
      unfold fillS
      rw [if_neg (fun z => by rw [hend z] at hc; cases hc)]
  rw [hq] at k
  refine ⟨.ref a, rfl, a, .int S'.left, rfl, get_at hs val_left, ?_⟩
  refine ⟨.int S'.left, rfl, S'.left, 1, rfl, rfl, decide (1 < S'.left), rfl, ?_⟩
  by_cases h1 : S'.left > 1
  · dsimp only
    rw [if_pos (by simpa using h1)]
    have ef : fillEnd most (S'.cells, S'.left) S = (S'.left % most, ⟨S'.cells, S'.left / most, S.mixed, S.turn⟩) := by
      unfold fillEnd
      rw [if_pos h1]
    rw [ef] at k
    refine ⟨.int S'.left, rfl, .int most, rfl, S'.left, most, rfl, rfl, ⟨by omega, hlim⟩, .ref a, rfl, a, _, rfl, .inl ⟨_, .inr "left", hs.1, rfl, (by show 4 < sizeLine; decide), rfl⟩, ?_⟩
    have e1 := put_left (c := c) (l := S'.left) (m := S'.mixed) (t := S'.turn) (v := S'.left / most)
    refine ⟨.int S'.left, rfl, .inl ⟨S'.left, rfl, .int most, rfl, S'.left, most, rfl, rfl, by show 0 < most; omega, ?_⟩⟩
    have hs2 : SrcAt (upd H' a (.dK (srcK c (S'.left / most) S'.mixed S'.turn))) a c ⟨S'.cells, S'.left / most, S'.mixed, S'.turn⟩ := src_upd_a (S' := ⟨S'.cells, S'.left / most, S'.mixed, S'.turn⟩) hs rfl
    show Q (.int (S'.left % most)) (upd H' a (.dK (putK (srcK c S'.left S'.mixed S'.turn) (.inr "left") (.int (S'.left / most)))))
    rw [e1]
    rw [hmix, hturn] at hs2 ⊢
    have ot2 := ot.upd (o := .dK (srcK c (S'.left / most) S.mixed S.turn)) (.inl rfl) hs.1
    exact k _ _ ot2.1 ot2.2 hs2 (.int _)
  · dsimp only
    rw [if_neg (by simpa using h1)]
    have ef : fillEnd most (S'.cells, S'.left) S = (((((S.mixed + (S.turn + 1) * 104729) % 998244353) * ((S.mixed + (S.turn + 1) * 104729) % 998244353) + (S.turn + 1) * 17) % 2147483647) / 16 % most, ⟨S'.cells, S'.left, S.mixed, S.turn + 1⟩) := by
      unfold fillEnd
      rw [if_neg h1]
    rw [ef] at k
    have hs1 : DGet H' a (.str "turn") (some (.int S'.turn)) := get_at hs val_turn
    refine ⟨.ref a, rfl, a, .int S'.turn, rfl, hs1, S'.turn, 1, rfl, rfl, .ref a, rfl, a, _, rfl, .inl ⟨_, .inr "turn", hs.1, rfl, (by show 4 < sizeLine; decide), rfl⟩, ?_⟩
    have hs2 : SrcAt (upd H' a (.dK (srcK c S'.left S'.mixed (S'.turn + 1)))) a c ⟨S'.cells, S'.left, S'.mixed, S'.turn + 1⟩ := src_upd_a (S' := ⟨S'.cells, S'.left, S'.mixed, S'.turn + 1⟩) hs rfl
    have ot2 := ot.upd (o := .dK (srcK c S'.left S'.mixed (S'.turn + 1))) (.inl rfl) hs.1
    show tSeq _ _ _ _ (upd H' a (.dK (putK (srcK c S'.left S'.mixed S'.turn) (.inr "turn") (.int (S'.turn + 1)))))
    rw [put_turn]
    generalize upd H' a (.dK (srcK c S'.left S'.mixed (S'.turn + 1))) = G at hs2 ot2
    rw [hmix, hturn] at hs2
    refine ⟨.ref a, rfl, a, .int (S.turn + 1), rfl, get_at hs2 val_turn, ?_⟩
    have hm0 := Int.emod_nonneg (S.mixed + (S.turn + 1) * 104729) (show (998244353 : Int) ≠ 0 by decide)
    have hm1 := Int.emod_lt_of_pos (S.mixed + (S.turn + 1) * 104729) (show (0 : Int) < 998244353 by decide)
    generalize hx : (S.mixed + (S.turn + 1) * 104729) % 998244353 = x at hm0 hm1 k
    refine ⟨.ref a, rfl, a, .int S.mixed, rfl, get_at hs2 val_mixed, .int (S.turn + 1), rfl, S.turn + 1, 104729, rfl, rfl, .inr ⟨by decide, by decide⟩, S.mixed, (S.turn + 1) * 104729, rfl, rfl, .inl ⟨_, rfl, _, 998244353, rfl, rfl, by show (0 : Int) < 998244353; decide, ?_⟩⟩
    dsimp only
    rw [hx]
    refine ⟨.int x, rfl, .int x, rfl, x, x, rfl, rfl, .inl ⟨by omega, by omega⟩, .int (S.turn + 1), rfl, S.turn + 1, 17, rfl, rfl, .inr ⟨by decide, by decide⟩, x * x, (S.turn + 1) * 17, rfl, rfl, .inl ⟨_, rfl, _, 2147483647, rfl, rfl, by show (0 : Int) < 2147483647; decide, ?_⟩⟩
    refine ⟨_, rfl, _, 16, rfl, rfl, ⟨by decide, by decide⟩, .inl ⟨_, rfl, .int most, rfl, _, most, rfl, rfl, by show 0 < most; omega, ?_⟩⟩
    exact k _ _ ot2.1 ot2.2 hs2 (.int _)
theorem ds_law_pick {P : Program} {w : World} {K : PySem.W.Frag} {mg : Str → Option Value} {base : Heap} {f : Addr} {fd : FuncData} (F : FnP K "_law_pick" (top 48) f fd) (hf : mg "_law_pick" = some (.ref f)) (bt : Bt mg) : DS P w K mg base "_law_pick" 1 2 m_law_pick := by
  refine ⟨⟨f, fd, ["_law_source", "_law_most"], F.ok sc_pick (fun vs H Q E h => h.1) (fun cdv A outer s H vs Q E hr h => ?_), hf, F.kp, F.bindsN fun _ _ _ _ _ _ us hl => match us, hl with | [_, _], _ => rfl⟩, fun ds S z h => ?_⟩
  · have nd := sc_pick.nd
    have hu := hr.units
    have hu' : (A.deeper (envOfC "_law_pick" (defScope (top 48)) s.heap.objs.size f cdv)).units + 1 < cLine := by omega
    obtain ⟨hl, a, c, S, us, ds, z, S', rfl, hs, av, hm, k⟩ := h
    have src : ∀ {x : Str} {p1 p2 p3 : Pos} {j : Nat}, PE (cxOf CX0 P w K mg base nPick "_law_pick" (defScope (top 48)) f cdv A outer s H E).nox (.Subscript (.Name "_law_source" p1) (.Constant (.str x) j p2) p3) _ := fun {x p1 p2 p3 j} => pe_dget (pos := p3) hu' (pe_var (i := 0) (pos := p1) rfl (.inl rfl)) (pe_str (x := x) (j := j) (pos := p2)) (fun _ _ => rfl)
    refine ⟨_, PSs.nox (pss_cons (ps_if (pt_cmpR op_lt (pv 1) pe_int (nomark _)) (pss_one (ps_ret pe_int)) pss_nil)
      (pss_cons (ps_set (i := 2) nd rfl (.inl rfl) src)
      (pss_cons (ps_while PassesOwn.never (PW.pt (pw_and (pt_cmpR op_lt src pe_int (nomark _)) (pw_and1 (pt_cmpR op_gt (pe_callB call_len_seq rfl bt.len (by decide +kernel) (pa_cons (pv 2) pa_nil)) pe_int (nomark _))))) (pss_one (ps_dput hu' (pv 0) pe_str (pe_bm0 PySem.F.plainAttrs_list PySem.F.slot_list_pop PySem.F.type_list_pop mt_pop (pv 2)) rfl)))
      (pss_cons (ps_set (i := 3) nd rfl (.inl rfl) src)
      (pss_cons (ps_if (pt_cmpR op_gt (pv 3) pe_int (nomark _)) (pss_cons (ps_dput hu' (pv 0) pe_str (pe_op op_fdiv (pv 3) (pv 1)) rfl) (pss_one (ps_ret (pe_op op_mod (pe_callTy call_int1 rfl bt.int (by decide +kernel) (pa_cons (pv 3) pa_nil)) (pv 1))))) pss_nil)
      (pss_cons (ps_dput hu' (pv 0) pe_str (pe_op op_add src pe_int) rfl)
      (pss_cons (ps_set (i := 4) nd rfl (.inl rfl) src)
      (pss_cons (ps_set (i := 5) nd rfl (.inl rfl) (pe_op op_mod (pe_callTy call_int1 rfl bt.int (by decide +kernel) (pa_cons (pe_op op_add src (pe_op op_mul (pv 4) pe_int)) pa_nil)) pe_int))
      (pss_cons (ps_set (i := 5) nd rfl (.inl rfl) (pe_op op_mod (pe_callTy call_int1 rfl bt.int (by decide +kernel) (pa_cons (pe_op op_add (pe_op op_mul (pv 5) (pv 5)) (pe_op op_mul (pv 4) pe_int)) pa_nil)) pe_int))
      (pss_one (ps_ret (pe_op op_mod (pe_callTy call_int1 rfl bt.int (by decide +kernel) (pa_cons (pe_op op_fdiv (pv 5) pe_int) pa_nil)) (pv 1))))))))))))), ?_⟩
    unfold m_law_pick at hm
    split at hm
    · rename_i most
      obtain ⟨hlim, hm⟩ := if_inv hm
      have hlim := of_decide_eq_true hlim
      obtain ⟨rfl, rfl⟩ := pair2 hm
      cases av with
      | cons a1 a2 =>
        cases a2
        have e1 := a1.int_inv
        subst e1
        refine ⟨_, rfl, most, 2, rfl, rfl, ?_⟩
        by_cases h2 : most < 2
        · refine ⟨decide (most < 2), rfl, ?_⟩
          unfold pickI at k
          rw [if_pos h2] at k
          dsimp only
          rw [if_pos (by simpa using h2)]
          exact k _ H (fun _ _ h _ _ => h) (fun _ h => h) hs (.int 0)
        · refine ⟨decide (most < 2), rfl, ?_⟩
          rw [pickI_eq h2] at k
          dsimp only
          rw [if_neg (by simpa using h2)]
          refine ⟨.ref a, rfl, a, .ref c, rfl, get_at hs val_cells, ?_⟩
          refine ⟨fun m σ' H' => σ' = [some (.ref a), some (.int most), some (.ref c), none, none, none] ∧ ∃ S' : Src, SrcAt H' a c S' ∧ Other a c H H' ∧ m = S'.cells.length ∧ fillS S'.cells S'.left = fillS S.cells S.left ∧ S'.mixed = S.mixed ∧ S'.turn = S.turn,
            ⟨S.cells.length, rfl, S, hs, .refl H, rfl, rfl, rfl, rfl⟩, ?_⟩
          rintro m σ' H' ⟨rfl, S', hs', ot, rfl, hfill, hmix, hturn⟩
          -- what follows the loop
          refine ⟨.ref a, rfl, a, .int S'.left, rfl, get_at hs' val_left, S'.left, 2, rfl, rfl, decide (S'.left < 2), rfl, ?_⟩
          by_cases hl2 : S'.left < 2
          · dsimp only
            rw [if_pos (by simpa using hl2)]
            refine ⟨.ref c, rfl, c, S'.cells.reverse.map V.int, rfl, .inl (.inl (.inl hs'.2)), ((S'.cells.reverse.map V.int).length : Nat), 0, rfl, rfl, decide ((0 : Int) < ((S'.cells.reverse.map V.int).length : Nat)), rfl, ?_⟩
            cases hcs : S'.cells with
            | nil =>
              rw [if_neg (by simp)]
              exact pick_after hs' ot h2 hlim (fun _ => hcs) hfill hmix hturn k
            | cons x r =>
              rw [if_pos (by simp)]
              have hc0 := hs'.2
              rw [hcs] at hc0 hfill
              have hlast : ((x :: r).reverse.map V.int)[((x :: r).reverse.map V.int).length - 1]? = some (.int x) := by
                rw [← List.getLast?_eq_getElem?, List.map_reverse, List.getLast?_reverse]
                rfl
              have hdrop : ((x :: r).reverse.map V.int).dropLast = r.reverse.map V.int := by
                rw [List.reverse_cons, List.map_append]
                simp
              refine ⟨fun σ2 H2 => σ2 = [some (.ref a), some (.int most), some (.ref c), none, none, none] ∧ ∃ S2 : Src, SrcAt H2 a c S2 ∧ Other a c H H2 ∧ r.length = S2.cells.length ∧ fillS S2.cells S2.left = fillS S.cells S.left ∧ S2.mixed = S.mixed ∧ S2.turn = S.turn, fun σ2 H2 ⟨e1, S2, q1, q2, q3, q4, q5, q6⟩ => ⟨r.length, by simp, e1, S2, q1, q2, q3, q4, q5, q6⟩, ?_⟩
              refine ⟨.ref c, rfl, .inl ⟨rfl, _, .inl (.inl hc0)⟩, c, (x :: r).reverse.map V.int, .int x, rfl, rfl, hc0, hlast, ?_⟩
              rw [hdrop]
              have ne := src_ne hs'
              have ha1 : upd H' c (.lst (r.reverse.map V.int)) a = some (.dK (srcK c S'.left S'.mixed S'.turn)) := by
                rw [upd_ne ne]
                exact hs'.1
              refine ⟨.ref a, rfl, a, _, rfl, .inl ⟨_, .inr "left", ha1, rfl, (by show 4 < sizeLine; decide), rfl⟩, rfl, ⟨r, x, S'.mixed, S'.turn⟩, ?_, ?_, rfl, ?_, hmix, hturn⟩
              · rw [put_left]
                refine ⟨upd_same, ?_⟩
                rw [upd_ne ne.symm, upd_same]
              · exact (ot.upd (.inr rfl) hs'.2).upd (.inl rfl) ha1
              · rw [← hfill]
                show _ = fillS (x :: r) S'.left
                rw [fillS, if_pos hl2]
          · dsimp only
            rw [if_neg (by simpa using hl2), if_neg Bool.false_ne_true]
            exact pick_after hs' ot h2 hlim (fun z => absurd z hl2) hfill hmix hturn k
    · cases hm
  · unfold m_law_pick at h
    split at h
    · rfl
    · cases h
end Dl
end
section
set_option Elab.async false
set_option linter.all false
set_option autoImplicit false
set_option maxRecDepth 100000
set_option maxHeartbeats 4000000
/-! Open: _law_open_cells, by hand. -/
namespace Dl
open PySem PySem.Spec PyProof.Rows L2
abbrev nOpen : List Str := ["_law_script", "_law_stirred", "_law_cell", "_law_cells"]
theorem sc_open : FnScope nOpen ["_law_script"] (defScope (top 47)) := ⟨rfl, rfl, rfl, by decide +kernel, rfl, by decide +kernel, by decide +kernel⟩
def spOpen (K : PySem.W.Frag) : Sp := fun vs H Q _ => vs.length = 1 ∧ ∃ (l : Addr) (ns : List Int), vs = [.ref l] ∧ SqL K H l (ns.map V.int) ∧ ns.length ≤ 63 ∧ ∀ H' a c, Same H H' → H a = none → H c = none → SrcAt H' a c (openS ns) → Q (.ref a) H'
theorem stir_snoc : ∀ (ns : List Int) (n s : Int), stirI (ns ++ [n]) s = (stirI ns s * 69069 + n * 31 + 5) % 2147483629
  | [], n, s => rfl
  | x :: ns, n, s => stir_snoc ns n _
def abs1 (n : Int) : Int := if n < 0 then -n else n
theorem ok_open {P : Program} {w : World} {K : PySem.W.Frag} {mg : Str → Option Value} {base : Heap} {f : Addr} {fd : FuncData} (F : FnP K "_law_open_cells" (top 47) f fd) (bt : Bt mg) : FnOk P w K mg base CX0 1 f fd ["_law_script"] (spOpen K) := by
  refine F.ok sc_open (fun vs H Q E h => h.1) (fun cdv A outer s H vs Q E hr h => ?_)
  have nd := sc_open.nd
  obtain ⟨hl, l, ns, rfl, hs, hn, k⟩ := h
  refine ⟨_, PSs.nox (pss_cons (ps_set (i := 1) nd rfl (.inl rfl) pe_int)
    (pss_cons (ps_for PassesOwn.never rfl (pi_list (pv 0)) (pg_name (i := 2) nd rfl (.inl rfl)) (pss_one (ps_set (i := 1) nd rfl (.inl rfl) (pe_op op_mod (pe_callTy call_int1 rfl bt.int (by decide +kernel) (pa_cons (pe_op op_add (pe_op op_add (pe_op op_mul (pv 1) pe_int) (pe_op op_mul (pv 2) pe_int)) pe_int) pa_nil)) pe_int))))
    (pss_cons (ps_setLc (i := 3) (own := [("_law_cell", 2)]) (g := gName 2) (tt := L2.tYes) rfl nd rfl rfl (sw_true rfl rfl rfl (by decide +kernel)) (pi_list (pv 0)) (blkOk_by (N := nOpen) (sc := defScope (top 47)) (by decide +kernel)) (fun _ _ _ _ _ => pg_name (i := 2) nd rfl (.inl rfl)) (fun _ _ _ _ _ => pts_nil) (fun _ _ _ _ _ => pe_callB call_abs rfl bt.abs (by decide +kernel) (pa_cons (pv 2) pa_nil)))
    (pss_one (ps_ret (pe_disp (pps_cons pe_str (pe_revL (pv 3)) (pps_cons pe_str pe_int (pps_cons pe_str (pv 1) (pps_cons pe_str pe_int pps_nil)))) rfl rfl (fun z => nomatch z) (by decide))))))), ?_⟩
  refine ⟨.ref l, rfl, l, rfl, ⟨_, hs⟩, for_list (xs := ns.map V.int) (fun i σ H' => H' = H ∧ ∃ x, σ = [some (.ref l), some (.int (stirI (ns.take i) 11)), x, none]) ⟨rfl, none, rfl⟩ (fun i σ H' _ h => by rw [h.1]; exact hs) (fun i x σ H' hx h => ?_) (fun σ H' h => ?_)⟩
  · obtain ⟨rfl, x0, rfl⟩ := h
    rw [List.getElem?_map] at hx
    obtain ⟨n, hn, rfl⟩ := Option.map_eq_some_iff.mp hx
    refine ⟨_, rfl, _, 69069, rfl, rfl, .inr ⟨by decide, by decide⟩, _, rfl, n, 31, rfl, rfl, .inr ⟨by decide, by decide⟩, _, _, rfl, rfl, _, 5, rfl, rfl, .inl ⟨_, rfl, _, 2147483629, rfl, rfl, by show (0 : Int) < 2147483629; decide, rfl, some (.int n), ?_⟩⟩
    have e : ns.take (i + 1) = ns.take i ++ [n] := by rw [List.take_add_one, hn]; rfl
    rw [e, stir_snoc]
    rfl
  · obtain ⟨rfl, x0, rfl⟩ := h
    rw [List.length_map, List.take_length]
    have hD : ∀ D, H' D = none → ∀ H2, Same (upd H' D (.lst [])) H2 → Same H' H2 := fun D hD H2 e b o h => e b o (by rw [upd_ne (ne_of_none h hD)]; exact h)
    refine ⟨.ref l, rfl, l, rfl, ⟨_, hs⟩, fun D hD => lc_list (xs := ns.map V.int) (fun i H2 => Same H' H2 ∧ H2 D = some (.lst ((ns.take i).map fun n => V.int (abs1 n)))) ⟨same_new hD, upd_same⟩ (fun i H2 _ h => Same.seq h.1 hs) (fun i x H2 hx h => ?_) fun H2 h => ?_⟩
    · rw [List.getElem?_map] at hx
      obtain ⟨n, hn', rfl⟩ := Option.map_eq_some_iff.mp hx
      refine ⟨rfl, ?_⟩
      simp only [L2.tYes, if_true]
      refine ⟨_, rfl, n, rfl, (ns.take i).map fun n => V.int (abs1 n), h.2, ?_, ?_, ?_⟩
      · rw [List.length_map, List.length_take, sizeLine_eq]
        omega
      · exact fun b o hb => by
          have hne : b ≠ D := fun z => by rw [z, hD] at hb; cases hb
          rw [upd_ne hne]
          exact h.1 b o hb
      · have e : ns.take (i + 1) = ns.take i ++ [n] := by rw [List.take_add_one, hn']; rfl
        rw [e, upd_same, List.map_append]
        rfl
    · obtain ⟨h1, h2⟩ := h
      rw [List.length_map, List.take_length] at h2
      have nD := hD
      intro p hp
      have hpD : p ≠ D := fun z => by rw [z, h2] at hp; cases hp
      have e2 : upd H2 p (.dK []) D = some (.lst (ns.map fun n => V.int (abs1 n))) := by rw [upd_ne hpD.symm]; exact h2
      refine ⟨.ref D, rfl, D, _, rfl, .inl (.inl e2), fun c hc => ?_⟩
      have hcp : c ≠ p := fun z => by rw [z, upd_same] at hc; cases hc
      have hcD : c ≠ D := fun z => by rw [z, e2] at hc; cases hc
      refine ⟨_, rfl, by rw [upd_ne hcp.symm, upd_same], [(.inr "cells", .ref c), (.inr "left", .int 1), (.inr "mixed", .int (stirI ns 11)), (.inr "turn", .int 0)], rfl, (by show 4 ≤ 15; decide), ?_⟩
      have hH2 : H2 c = none := by rw [upd_ne hcp] at hc; exact hc
      have c0 : H' c = none := h1.free hH2
      have p0 : H' p = none := h1.free hp
      refine k _ p c (fun b o hb => ?_) p0 c0 ⟨?_, ?_⟩
      · have n1 : b ≠ p := fun z => by rw [z, p0] at hb; cases hb
        have n2 : b ≠ c := fun z => by rw [z, c0] at hb; cases hb
        rw [upd_ne n1, upd_ne n2, upd_ne n1]
        exact h1 b o hb
      · rw [upd_same]
        rfl
      · rw [upd_ne hcp, upd_same]
        show some (HO.lst (ns.map fun n => V.int (abs1 n)).reverse) = some (.lst ((ns.map fun n => if n < 0 then -n else n).reverse.map V.int))
        rw [List.map_reverse, List.map_map]
        rfl
end Dl
end
section
set_option Elab.async false
set_option linter.all false
set_option autoImplicit false
set_option maxRecDepth 100000
set_option maxHeartbeats 4000000
/-! Group: d.setdefault(k, []).append(v): by_keys, in_windows. -/
namespace Dl
open PySem PySem.Spec PyProof.Rows L2
section
variable {P : Program} {w : World} {B : Base} {H H' H1 H2 : Hp} {σ σ' : L2.St} {ρ ρ' ρ1 ρ2 : DEnv} {X : Cx} {pins : List (Addr × Obj)} {s : Shared} {e o : Expr} {pos p : Pos}
theorem keys_isK (I : Inv X pins σ H s) : ∀ {es : NEs} {us : List (NestedKey × Addr × Value)}, (∀ e ∈ es, At X.prog X.w H (.ref e.2.1) e.1.data) → Paired NRel es us → (∀ e ∈ us, e.1.depth ≤ 8) → ∀ x ∈ us, (nestedKind X.prog X.w).is s.heap x.1 x.2.1
  | _, _, hk, .nil, hd => fun x hx => nomatch hx
  | _, _, hk, .cons r1 r2, hd => by
    intro x hx
    rcases List.mem_cons.mp hx with rfl | hx
    · refine ⟨?_, hd _ List.mem_cons_self⟩
      rw [← r1.1, ← r1.2.1]
      exact nest I (hk _ List.mem_cons_self) (u := Value.ref _) rfl (toK_data _)
    · exact keys_isK I (fun e m => hk e (List.mem_cons_of_mem _ m)) r2 (fun e m => hd e (List.mem_cons_of_mem _ m)) x hx
theorem nd_openK {es : NEs} {q : Addr} (I : Inv X pins σ H s) (h : Rd H q (ndO X.prog X.w q es)) (hk : ∀ e ∈ es, At X.prog X.w H (.ref e.2.1) e.1.data) :
    ∃ us, Paired NRel es us ∧ s.heap.DictOfH (nestedKind X.prog X.w) q us ∧ (q == sysModules) = false ∧ es.length ≤ sizeLine ∧ (∀ e ∈ us, e.1.depth ≤ 8) ∧ (us.map (·.1)).Nodup := by
  obtain ⟨⟨us, r, o, des, ep, h1, h2, h3, h4, h5, h6, h7, h8⟩, _⟩ := h.ok I.hok
  exact ⟨us, r, ⟨o, des, ep, h1, h2, h3, h4, keys_isK I hk r h8, h5⟩, h6, h7, h8, h5⟩
theorem nr_find {k : NestedKey} : ∀ {es : NEs} {us : List (NestedKey × Addr × Value)}, Paired NRel es us →
    (atKey us k = none ∧ ∀ e ∈ es, e.1 ≠ k) ∨ ∃ (es1 : NEs) (b : Addr) (v : V) (es2 : NEs) (u : Value), es = es1 ++ (k, b, v) :: es2 ∧ (∀ e ∈ es1, e.1 ≠ k) ∧ atKey us k = some (b, u) ∧ RelV v u
  | _, _, .nil => .inl ⟨rfl, fun e he => nomatch he⟩
  | _, _, @Paired.cons _ _ _ y z ys zs r1 r2 => by
    by_cases e : z.1 = k
    · refine .inr ⟨[], y.2.1, y.2.2, ys, z.2.2, ?_, (fun e he => nomatch he), ?_, r1.2.2⟩
      · rw [List.nil_append, ← e, ← r1.1]
      · unfold atKey
        rw [List.find?_cons_of_pos (by simpa using e), r1.2.1]
        rfl
    · have z1 : atKey (z :: zs) k = atKey zs k := by
        unfold atKey
        rw [List.find?_cons_of_neg (by simpa using e)]
      rcases nr_find (k := k) r2 with ⟨h1, h2⟩ | ⟨es1, b, v, es2, u, h1, h2, h3, h4⟩
      · refine .inl ⟨by rw [z1]; exact h1, fun x hx => ?_⟩
        rcases List.mem_cons.mp hx with rfl | hx
        · rw [r1.1]; exact e
        · exact h2 x hx
      · refine .inr ⟨y :: es1, b, v, es2, u, by rw [h1]; rfl, fun x hx => ?_, by rw [z1]; exact h3, h4⟩
        rcases List.mem_cons.mp hx with rfl | hx
        · rw [r1.1]; exact e
        · exact h2 x hx
/-- d.setdefault(k, []): p the dict, y the key, l the new list; the answer is the list there, or l -/
def tSetD (P : Program) (w : World) (td tk : TE) : TE := fun σ H Q => td σ H fun x H1 => ∃ p, x = .ref p ∧ (∃ es, H1 p = some (ndO P w p es) ∧ ∀ e ∈ es, At P w H1 (.ref e.2.1) e.1.data) ∧ tk σ H1 fun y H2 => ∀ l, H2 l = none →
  ∃ es k b, y = .ref b ∧ upd H2 l (.lst []) p = some (ndO P w p es) ∧ (∀ e ∈ es, At P w (upd H2 l (.lst [])) (.ref e.2.1) e.1.data) ∧ At P w (upd H2 l (.lst [])) (.ref b) k.data ∧ k.depth ≤ 8 ∧ es.length < sizeLine ∧
    (∀ es1 b' v es2, es = es1 ++ (k, b', v) :: es2 → (∀ e ∈ es1, e.1 ≠ k) → Q v (upd H2 l (.lst []))) ∧ ((∀ e ∈ es, e.1 ≠ k) → Q (.ref l) (upd (upd H2 l (.lst [])) p (ndO P w p (es ++ [(k, b, .ref l)]))))
theorem pe_setd {td tk : TE} {apos cpos p2 : Pos} {kk : Nat} (hr : Room kk X.A) (ho : PE X o td) (hk : PE X e tk) (m : M2 X o "setdefault" apos e (.List [] p2) cpos) : PE X (.Call (.Attribute o "setdefault" apos) [e, .List [] p2] [] cpos) (tSetD X.prog X.w td tk) := by
  refine ⟨fun pins s σ H Q I h => ?_⟩
  have hu := hr.units
  refine wpAny_Call_method m.base m.few m.line PySem.F.plainAttrs_dict PySem.F.slot_dict_setdefault PySem.F.type_dict_setdefault (thn (ho.run pins s σ H _ I h) fun u s1 ⟨x, H1, I1, rx, q, ex, ⟨es, hq, hks⟩, q1⟩ => ?_)
  subst ex
  obtain rfl : u = Value.ref q := rx
  obtain ⟨us, r, d, _⟩ := nd_openK I1 (.inl hq) hks
  refine ⟨d.typeIs, fun a ea => ?_, ?_⟩
  · cases ea
    obtain ⟨ob, _, _, e1, e2, _⟩ := d
    exact ⟨ob, e1, e2.2.1⟩
  rw [m.trees]
  refine Calls.callWith_builtin rfl (Calls.evalArgs_plain (Calls.spliced_cons (thn (hk.run pins s1 σ H1 _ I1 q1) fun iv s2 ⟨y, H2, I2, ry, q2⟩ => ?_)))
  refine Calls.spliced_cons (thn ((pe_lst (pos := p2) pa_nil).run pins s2 σ H2 (fun v H3 => ∃ l, v = .ref l ∧ H2 l = none ∧ H3 = upd H2 l (.lst [])) I2 ⟨Nat.zero_le _, fun l hl => ⟨l, rfl, hl, rfl⟩⟩) fun lv s3 ⟨z, H3, I3, rz, l, ez, hl, e3⟩ => Calls.spliced_nil ?_)
  subst ez e3
  obtain rfl : lv = Value.ref l := rz
  obtain ⟨es, k, b, ey, hq3, hks3, hkb, hkd, hlen, c1, c2⟩ := q2 l hl
  subst ey
  obtain rfl : iv = Value.ref b := ry
  obtain ⟨us, r, d, h6, h7, h8, h9⟩ := nd_openK I3 (.inl hq3) hks3
  have hul : us.length = es.length := (Paired.length r).symm
  refine call_setdefault_heap (knd := nestedKind X.prog X.w) (k := k) (show X.A.in1.units + 8 < cLine from by show X.A.units + 1 + 8 < cLine; omega) ⟨nest I3 hkb rfl (toK_data k), hkd⟩ h6 d (fun pq hpq => ?_) (fun hn h' d' sb => ?_) (by omega)
  · rcases nr_find (k := k) r with ⟨g1, _⟩ | ⟨es1, b', v, es2, u, g1, g2, g3, g4⟩
    · rw [g1] at hpq
      cases hpq
    · rw [g3] at hpq
      cases hpq
      exact ⟨v, _, I3.tok _, g4, c1 es1 b' v es2 g1 g2⟩
  · rcases nr_find (k := k) r with ⟨g1, g2⟩ | ⟨es1, b', v, es2, u, g1, g2, g3, g4⟩
    · refine ⟨.ref l, _, I3.write (t' := s3.toks + (nestedKind X.prog X.w).draws k) (by rw [hq3]; exact True.intro) (.inl rfl) (fun b ob hb e => (sb.2 b hb).trans e) (let ⟨o, _, _, e, _⟩ := d'; ⟨o, e⟩) ?_, rfl, c2 g2⟩
      have ep : putE es k b (.ref l) = es ++ [(k, b, .ref l)] := by
        unfold putE
        rw [if_neg]
        intro z
        obtain ⟨x, hx, hx2⟩ := List.any_eq_true.mp z
        exact g2 x hx (of_decide_eq_true hx2)
      rw [← ep]
      refine nd_laid (nr_put r (show RelV (.ref l) (Value.ref l) from rfl)) d' h6 ?_ (stored_depth hkd h8)
      rw [ep, List.length_append, List.length_singleton]
      omega
    · rw [g3] at hn
      cases hn
/-! ### groups -/
inductive GAll (P : Program) (w : World) (H : Hp) : NEs → List (NestedKey × List PyData) → Prop
  | nil : GAll P w H [] []
  | cons {k : NestedKey} {b q : Addr} {xs : List V} {ds : List PyData} {es : NEs} {kvs : List (NestedKey × List PyData)} : At P w H (.ref b) k.data → H q = some (.lst xs) → AtAll P w H xs ds → GAll P w H es kvs → GAll P w H ((k, b, .ref q) :: es) ((k, ds) :: kvs)
structure GOk (P : Program) (w : World) (H : Hp) (p : Addr) (es : NEs) (kvs : List (NestedKey × List PyData)) : Prop where
  at_ : H p = some (ndO P w p es)
  all : GAll P w H es kvs
  vals : (es.map (·.2.2)).Nodup
  keys : (kvs.map (·.1)).Nodup
theorem GAll.same (e : Same H H') : ∀ {es : NEs} {kvs : List (NestedKey × List PyData)}, GAll P w H es kvs → GAll P w H' es kvs
  | _, _, .nil => .nil
  | _, _, .cons a h b r => .cons (a.ext (.of e)) (e _ _ h) (b.ext (.of e)) (GAll.same e r)
theorem GOk.same {q : Addr} {es : NEs} {kvs : List (NestedKey × List PyData)} (g : GOk P w H q es kvs) (e : Same H H') : GOk P w H' q es kvs := ⟨e _ _ g.at_, g.all.same e, g.vals, g.keys⟩
theorem GAll.ks : ∀ {es : NEs} {kvs : List (NestedKey × List PyData)}, GAll P w H es kvs → ∀ e ∈ es, At P w H (.ref e.2.1) e.1.data
  | _, _, .nil => fun e he => nomatch he
  | _, _, .cons a h b r => fun e he => by
    rcases List.mem_cons.mp he with rfl | he
    · exact a
    · exact GAll.ks r e he
theorem GAll.vs : ∀ {es : NEs} {kvs : List (NestedKey × List PyData)}, GAll P w H es kvs → ∀ e ∈ es, ∃ q xs, e.2.2 = .ref q ∧ H q = some (.lst xs)
  | _, _, .nil => fun e he => nomatch he
  | _, _, .cons a h b r => fun e he => by
    rcases List.mem_cons.mp he with rfl | he
    · exact ⟨_, _, rfl, h⟩
    · exact GAll.vs r e he
theorem GAll.length : ∀ {es : NEs} {kvs : List (NestedKey × List PyData)}, GAll P w H es kvs → es.length = kvs.length
  | _, _, .nil => rfl
  | _, _, .cons _ _ _ r => by rw [List.length_cons, List.length_cons, GAll.length r]
theorem GAll.keysEq : ∀ {es : NEs} {kvs : List (NestedKey × List PyData)}, GAll P w H es kvs → es.map (·.1) = kvs.map (·.1)
  | _, _, .nil => rfl
  | _, _, .cons _ _ _ r => by rw [List.map_cons, List.map_cons, GAll.keysEq r]
/-- a thing that is not one of the lists has changed -/
theorem GAll.but {q : Addr} {u u2 : HO} (hu : H q = some u) (hi : ¬ Imm u) : ∀ {es : NEs} {kvs : List (NestedKey × List PyData)}, (∀ e ∈ es, e.2.2 ≠ .ref q) → GAll P w H es kvs → GAll P w (upd H q u2) es kvs
  | _, _, n, .nil => .nil
  | _, _, n, .cons a h b r => by
    have ex := ext_but hu hi (upd_but' (o := u2))
    refine .cons (a.ext ex) ?_ (b.ext ex) (GAll.but hu hi (fun e he => n e (List.mem_cons_of_mem _ he)) r)
    rw [upd_ne fun z => n _ List.mem_cons_self (by rw [z])]
    exact h
theorem GAll.split {k : NestedKey} : ∀ {es1 es2 : NEs} {b : Addr} {v : V} {kvs : List (NestedKey × List PyData)}, GAll P w H (es1 ++ (k, b, v) :: es2) kvs → ∃ kvs1 ds kvs2 q xs, kvs = kvs1 ++ (k, ds) :: kvs2 ∧ v = .ref q ∧ H q = some (.lst xs) ∧ AtAll P w H xs ds ∧ At P w H (.ref b) k.data ∧ GAll P w H es1 kvs1 ∧ GAll P w H es2 kvs2
  | [], es2, b, v, _, z => by
    rw [List.nil_append] at z
    cases z with
    | cons a h c r => exact ⟨[], _, _, _, _, rfl, rfl, h, c, a, .nil, r⟩
  | x :: es1, es2, b, v, _, z => by
    rw [List.cons_append] at z
    cases z with
    | cons a h c r =>
    obtain ⟨kvs1, ds, kvs2, q, xs, rfl, rfl, h1, h2, h3, h4, h5⟩ := GAll.split r
    exact ⟨_ :: kvs1, ds, kvs2, q, xs, rfl, rfl, h1, h2, h3, .cons a h c h4, h5⟩
theorem GAll.append : ∀ {es fs : NEs} {kvs lvs : List (NestedKey × List PyData)}, GAll P w H es kvs → GAll P w H fs lvs → GAll P w H (es ++ fs) (kvs ++ lvs)
  | _, _, _, _, .nil, s => s
  | _, _, _, _, .cons a h b r, s => .cons a h b (GAll.append r s)
theorem addG_mid {kvs1 kvs2 : List (NestedKey × List PyData)} {k : NestedKey} {ds : List PyData} {v : PyData} (h : ((kvs1 ++ (k, ds) :: kvs2).map (·.1)).Nodup) : addG (kvs1 ++ (k, ds) :: kvs2) k v = kvs1 ++ (k, ds ++ [v]) :: kvs2 := by
  have h1 : ∀ p ∈ kvs1, p.1 ≠ k := fun p hp e => by
    rw [List.map_append, List.map_cons, List.nodup_append] at h
    exact h.2.2 p.1 (List.mem_map.mpr ⟨p, hp, rfl⟩) k List.mem_cons_self e
  have h2 : ∀ p ∈ kvs2, p.1 ≠ k := fun p hp e => by
    rw [List.map_append, List.map_cons, List.nodup_append] at h
    have z := (List.nodup_cons.mp h.2.1).1
    exact z (List.mem_map.mpr ⟨p, hp, e⟩)
  have m : ∀ l : List (NestedKey × List PyData), (∀ p ∈ l, p.1 ≠ k) → l.map (fun p => if p.1 = k then (p.1, p.2 ++ [v]) else p) = l := fun l hl => by
    have := List.map_congr_left (f := fun p : NestedKey × List PyData => if p.1 = k then (p.1, p.2 ++ [v]) else p) (g := id) (l := l) fun p hp => by
      show (if p.1 = k then _ else _) = p
      rw [if_neg (hl p hp)]
    rw [this, List.map_id]
  unfold addG
  rw [if_pos (List.any_eq_true.mpr ⟨(k, ds), by simp, by simp⟩), List.map_append, List.map_cons, m _ h1, m _ h2, if_pos rfl]
theorem addG_new {kvs : List (NestedKey × List PyData)} {k : NestedKey} {v : PyData} (h : ∀ p ∈ kvs, p.1 ≠ k) : addG kvs k v = kvs ++ [(k, [v])] := by
  unfold addG
  rw [if_neg]
  intro z
  obtain ⟨x, hx, hx2⟩ := List.any_eq_true.mp z
  exact h x hx (of_decide_eq_true hx2)
end
end Dl
end
section
set_option Elab.async false
set_option linter.all false
set_option autoImplicit false
set_option maxRecDepth 100000
set_option maxHeartbeats 4000000
/-! Group2: the statement d.setdefault(k, []).append(v); the groups made data. -/
namespace Dl
open PySem PySem.Spec PyProof.Rows L2
section
variable {P : Program} {w : World} {B : Base} {H H' H1 H2 : Hp} {σ σ' : L2.St} {ρ ρ' ρ1 ρ2 : DEnv} {X : Cx} {pins : List (Addr × Obj)} {s : Shared} {e o b : Expr} {pos p : Pos} {fk fv : M PyData}
def GG (P : Program) (w : World) (B : Base) (H : Hp) (p : Addr) (kvs : List (NestedKey × List PyData)) : Prop := ∃ es, GOk P w H p es kvs ∧ B.H0 p = none ∧ ∀ e ∈ es, ∀ q, e.2.2 = .ref q → B.H0 q = none
/-- nothing is owned -/
def Bare (B : Base) (σ : L2.St) (ρ : DEnv) : Prop := B.sx = none ∧ B.T = [] ∧ ∀ b, ¬ Own σ ρ b
theorem Bare.same (n : Bare B σ ρ) (f : Fram B σ ρ H H') : Same H H' := fun b o h => f b o h (.inl n.2.1) (.inr ⟨n.2.2 b, fun ⟨x, y, z, _⟩ => by rw [n.1] at z; cases z⟩)
theorem Bare.post (n : Bare B σ ρ) (p : Post P w B σ ρ ρ' H H') : Bare B σ ρ' := ⟨n.1, n.2.1, fun b z => n.2.2 b (p.own b z)⟩
theorem Bare.nsrc (n : Bare B σ ρ) {b : Addr} : ¬ B.src b := fun ⟨x, y, z, _⟩ => by rw [n.1] at z; cases z
theorem GG.same {q : Addr} {kvs : List (NestedKey × List PyData)} (g : GG P w B H q kvs) (e : Same H H') : GG P w B H' q kvs := let ⟨es, g1, g2, g3⟩ := g; ⟨es, g1.same e, g2, g3⟩
def tGr (B : Base) (X : Cx) (i : Nat) (fk fv : M PyData) : TS := fun D σ H => ∃ ρ kd ρ1 k vd ρ2 p kvs, Rep X.prog X.w B H σ ρ ∧ Bare B σ ρ ∧ σ[i]? = some (some (.ref p)) ∧ GG X.prog X.w B H p kvs ∧ fk ρ = some (kd, ρ1) ∧ toKey kd = some k ∧ fv ρ1 = some (vd, ρ2) ∧ gSmall kvs = true ∧
  ∀ H', Rep X.prog X.w B H' σ ρ2 → Bare B σ ρ2 → Ext H H' → GG X.prog X.w B H' p (addG kvs k vd) → D.nx σ H'
theorem GAll.hs : ∀ {es : NEs} {kvs : List (NestedKey × List PyData)}, GAll P w H es kvs → ∀ e ∈ es, ∀ q, e.2.2 = .ref q → ∃ xs, H q = some (.lst xs) := fun g e he q hq => by
  obtain ⟨q', xs, e1, e2⟩ := g.vs e he
  rw [hq] at e1
  cases e1
  exact ⟨xs, e2⟩
theorem nodup_mid {α : Type} {xs ys : List α} {a : α} (h : (xs ++ a :: ys).Nodup) : (∀ x ∈ xs, x ≠ a) ∧ ∀ y ∈ ys, y ≠ a := by
  rw [List.nodup_append] at h
  exact ⟨fun x hx => h.2.2 x hx a List.mem_cons_self, fun y hy e => (List.nodup_cons.mp h.2.1).1 (e ▸ hy)⟩
theorem ps_group (i : Nat) {x : Str} {p1 p2 apos apos2 cpos cpos2 : Pos} {kk : Nat} (hr : Room kk X.A) (hk : ED B X e fk) (hv : ED B X b fv) (hN : X.N[i]? = some x := by rfl) (hvi : Vis X.env.scope x := by first | exact Or.inl rfl | exact Or.inr (Or.inl rfl) | exact Or.inr (Or.inr rfl)) (hd : (x == ("__debug__" : Str)) = false := by decide)
    (hcd : (x == ("__classdict__" : Str)) = false := by decide) (m : M2 X (.Name x p1) "setdefault" apos e (.List [] p2) cpos := by exact ⟨rfl, rfl, rfl, rfl⟩)
    (hbase : attributeBase (.Call (.Attribute (.Name x p1) "setdefault" apos) [e, .List [] p2] [] cpos) "append" X.env (eval (.Call (.Attribute (.Name x p1) "setdefault" apos) [e, .List [] p2] [] cpos) X.env) = eval (.Call (.Attribute (.Name x p1) "setdefault" apos) [e, .List [] p2] [] cpos) X.env := by rfl)
    (hfew : ((backTo cpos2 (starEach [b] X.env)).all (fun x => !x.1) && (backToKw cpos2 (keywordEach [] X.env)).all (fun x => x.1.isSome)
      && decide (([b] : List Expr).length + ([] : List Keyword).length + (if ([] : List Keyword).isEmpty then 0 else 1) < 30)) = true := by rfl)
    (hline : (apos2.endLine == cpos2.line) = true := by rfl) (hs : starEach [b] X.env = [(false, eval b X.env)] := by rfl) (hsw : swapsWith (.Call (.Attribute (.Call (.Attribute (.Name x p1) "setdefault" apos) [e, .List [] p2] [] cpos) "append" apos2) [b] [] cpos2) none pos.line X.env = pure false := by rfl) :
    PS X (.Expr (.Call (.Attribute (.Call (.Attribute (.Name x p1) "setdefault" apos) [e, .List [] p2] [] cpos) "append" apos2) [b] [] cpos2) pos) (tGr B X i fk fv) := by
  refine ⟨fun pins s σ H D I h => (ps_expr (pe_bm PySem.F.plainAttrs_list PySem.F.slot_list_append PySem.F.type_list_append mt_append (pe_setd hr (pe_var hN hvi hd hcd) hk.pe m) (pa_cons hv.pe pa_nil (by rw [hs]; rfl)) hbase hfew hline (by rw [hs]; rfl) (by rfl)) hsw).run pins s σ H D I ?_⟩
  obtain ⟨ρ, kd, ρ1, k, vd, ρ2, p, kvs, r, n, hσ, ⟨es, g, g0, gs⟩, h1, h2, h3, h4, h5⟩ := h
  obtain ⟨k3, k4, k5, ks, k6⟩ := toKey_inv h2
  subst k4
  obtain ⟨h4a, h4b⟩ := Bool.and_eq_true _ _ ▸ h4
  refine ⟨.ref p, hσ, p, rfl, ⟨es, g.at_, g.all.ks⟩, ρ, _, ρ1, r, h1, fun y H2 q2 a2 l hl => ?_⟩
  have ak := a2
  rw [k6, NestedKey.data] at ak
  obtain ⟨bq, xs, rfl, b1, b2⟩ := ak.tup_inv
  have s2 := n.same q2.fr
  have sl := same_new (o := HO.lst []) hl
  have g3 := (g.same s2).same sl
  have n1 := n.post q2
  have r3 := q2.rep.same sl
  have nl : l ≠ p := ne_of_none (g.same s2).at_ hl |>.symm
  refine ⟨es, k, bq, rfl, g3.at_, g3.all.ks, a2.ext (.of sl), k5, ?_, fun es1 b' v es2 hes hne => ?_, fun hne => ?_⟩
  · rw [g.all.length]
    exact small_lt h4a
  · -- the key is there
    have gg := g3.all
    rw [hes] at gg
    obtain ⟨kvs1, ds, kvs2, q, zs, rfl, rfl, c1, c2, c3, c4, c5⟩ := gg.split
    refine ⟨.inl ⟨rfl, zs, .inl (.inl c1)⟩, ρ1, vd, ρ2, r3, h3, fun vv H4 q4 a4 => ?_⟩
    have s4 := n1.same q4.fr
    have c14 := s4 _ _ c1
    have hlen : zs.length < sizeLine := by
      rw [c2.length]
      refine small_lt (List.all_eq_true.mp h4b (k, ds) (List.mem_append.mpr (.inr List.mem_cons_self)))
    refine ⟨q, zs, vv, rfl, rfl, c14, hlen, ?_⟩
    have hq0 : B.H0 q = none := gs (k, b', .ref q) (by rw [hes]; exact List.mem_append.mpr (.inr List.mem_cons_self)) q rfl
    have n2 := n1.post q4
    have ex := ext_but c14 (fun z => z) (upd_but' (o := .lst (zs ++ [vv])))
    have gv := g.vals
    rw [hes, List.map_append, List.map_cons] at gv
    obtain ⟨v1, v2⟩ := nodup_mid gv
    have np : p ≠ q := fun z => by
      have := g3.at_
      rw [z, c1] at this
      cases this
    rw [addG_mid g.keys] at h5
    refine h5 _ (q4.rep.poke c14 (fun z => z) (fun _ z => nomatch z) (.inr fun _ z => nomatch z) ⟨hq0, n.nsrc, n2.2.2 q⟩ upd_but') n2 (((Ext.of s2).trans (.of sl)).trans (.trans (.of s4) ex)) ⟨es, ⟨?_, ?_, g.vals, ?_⟩, g0, gs⟩
    · rw [upd_ne np]
      exact s4 _ _ g3.at_
    · rw [hes]
      refine .append ((c4.same s4).but c14 (fun z => z) fun e he z => v1 _ (List.mem_map.mpr ⟨e, he, rfl⟩) z) (.cons ((c3.ext (.of s4)).ext ex) upd_same ?_ ((c5.same s4).but c14 (fun z => z) fun e he z => v2 _ (List.mem_map.mpr ⟨e, he, rfl⟩) z))
      exact ((c2.ext (.of s4)).snoc a4).ext ex
    · have := g.keys
      rw [List.map_append, List.map_cons] at this ⊢
      exact this
  · -- the key is new
    have kne : ∀ p ∈ kvs, p.1 ≠ k := fun q hq z => by
      have : q.1 ∈ es.map (·.1) := by
        rw [g.all.keysEq]
        exact List.mem_map.mpr ⟨q, hq, rfl⟩
      obtain ⟨e, he, e2⟩ := List.mem_map.mp this
      exact hne e he (e2.trans z)
    have hpl : upd (upd H2 l (.lst [])) p (ndO X.prog X.w p (es ++ [(k, bq, .ref l)])) l = some (.lst []) := by
      rw [upd_ne nl, upd_same]
    refine ⟨.inl ⟨rfl, [], .inl (.inl hpl)⟩, ?_⟩
    have exp := ext_but g3.at_ (fun z => z) (upd_but' (o := ndO X.prog X.w p (es ++ [(k, bq, .ref l)])))
    have r4 : Rep X.prog X.w B (upd (upd H2 l (.lst [])) p (ndO X.prog X.w p (es ++ [(k, bq, .ref l)]))) σ ρ1 := r3.poke g3.at_ (fun z => z) (fun _ z => nomatch z) (.inl n.2.1) ⟨g0, n.nsrc, n1.2.2 p⟩ upd_but'
    refine ⟨ρ1, vd, ρ2, r4, h3, fun vv H4 q4 a4 => ?_⟩
    have s4 := n1.same q4.fr
    have hl4 := s4 _ _ hpl
    refine ⟨l, [], vv, rfl, rfl, hl4, by decide, ?_⟩
    have n2 := n1.post q4
    have ex := ext_but hl4 (fun z => z) (upd_but' (o := .lst ([] ++ [vv])))
    have l0 : B.H0 l = none := q2.rep.hp.alive l hl
    rw [addG_new kne] at h5
    have nel : ∀ e ∈ es, e.2.2 ≠ .ref l := fun e he z => by
      obtain ⟨zs, hz⟩ := (g.same s2).all.hs e he l z
      rw [hl] at hz
      cases hz
    have nep : ∀ e ∈ es, e.2.2 ≠ .ref p := fun e he z => by
      obtain ⟨zs, hz⟩ := g.all.hs e he p z
      rw [g.at_] at hz
      cases hz
    refine h5 _ (q4.rep.poke hl4 (fun z => z) (fun _ z => nomatch z) (.inr fun _ z => nomatch z) ⟨l0, n.nsrc, n2.2.2 l⟩ upd_but') n2 (((Ext.of s2).trans (.of sl)).trans (exp.trans (.trans (.of s4) ex))) ⟨es ++ [(k, bq, .ref l)], ⟨?_, ?_, ?_, ?_⟩, g0, fun e he q hq => ?_⟩
    · rw [upd_ne nl.symm]
      exact s4 _ _ upd_same
    · refine .append (((g3.all.but g3.at_ (fun z => z) nep).same s4).but hl4 (fun z => z) nel) (.cons ((((a2.ext (.of sl)).ext exp).ext (.of s4)).ext ex) upd_same ?_ .nil)
      exact .cons (a4.ext ex) .nil
    · rw [List.map_append, List.nodup_append]
      refine ⟨g.vals, by simp, fun a ha c hc z => ?_⟩
      obtain ⟨e, he, rfl⟩ := List.mem_map.mp ha
      rw [List.mem_singleton.mp hc] at z
      exact nel e he z
    · rw [List.map_append, List.nodup_append]
      refine ⟨g.keys, by simp, fun a ha c hc z => ?_⟩
      obtain ⟨e, he, rfl⟩ := List.mem_map.mp ha
      rw [List.mem_singleton.mp hc] at z
      exact kne e he z
    · rcases List.mem_append.mp he with he | he
      · exact gs e he q hq
      · rw [List.mem_singleton.mp he] at hq
        cases hq
        exact l0
/-! ### the groups made data -/
theorem gh_bind {Q : Hp → Prop} (h : Gh X σ H fun H1 => Gh X σ H1 Q) : Gh X σ H Q := fun pins s I => let ⟨H1, I1, q⟩ := h pins s I; q pins s I1
theorem gh_lists {Q : Hp → Prop} : ∀ {es : NEs} {kvs : List (NestedKey × List PyData)} {H : Hp}, GAll P w H es kvs → (es.map (·.2.2)).Nodup →
    (∀ H2, Ext H H2 → (∀ b o, H b = some o → (∀ e ∈ es, e.2.2 ≠ .ref b) → H2 b = some o) → (∀ b, H2 b = none → H b = none) → AtEs P w H2 es (kvs.map fun p => (p.1.data, .list p.2)) → Gh X σ H2 Q) → Gh X σ H Q
  | _, _, H, .nil, _, k => k H (.refl H) (fun _ _ h _ => h) (fun _ h => h) .nil
  | _, _, H, @GAll.cons _ _ _ kk b q xs ds es kvs a h c r, nd, k => by
    refine gh_bind (gh_lock h True.intro fun od => ?_)
    obtain ⟨nd1, nd2⟩ := List.nodup_cons.mp nd
    have ex := ext_but h (fun z => z) (upd_but' (o := .frz od (.lst xs)))
    refine gh_lists (r.but h (fun z => z) fun e he z => nd1 (List.mem_map.mpr ⟨e, he, z⟩)) nd2 fun H2 e1 e2 e3 e4 => k H2 (ex.trans e1) (fun b o hb hn => ?_) (fun b z => alive_but ⟨_, upd_same⟩ upd_but' b (e3 b z)) (.cons ((a.ext ex).ext e1) ?_ e4)
    · refine e2 b o ?_ fun e he => hn e (List.mem_cons_of_mem _ he)
      rw [upd_ne fun z => hn _ List.mem_cons_self (by rw [z])]
      exact hb
    · exact .lst (e1 _ _ upd_same True.intro) ((c.ext ex).ext e1)
theorem gh_group {q : Addr} {kvs : List (NestedKey × List PyData)} {Q : Hp → Prop} (r : Rep X.prog X.w B H σ ρ) (n : Bare B σ ρ) (g : GG X.prog X.w B H q kvs) (k : ∀ H2, ExtB [] B.H0 H2 → At X.prog X.w H2 (.ref q) (ndlD kvs) → Q H2) : Gh X σ H Q := by
  obtain ⟨es, g1, g2, g3⟩ := g
  refine gh_lists g1.all g1.vals fun H2 e1 e2 e3 e4 => ?_
  have hp : H2 q = some (ndO X.prog X.w q es) := e2 q _ g1.at_ fun e he z => by
    obtain ⟨zs, hz⟩ := g1.all.hs e he q z
    rw [g1.at_] at hz
    cases hz
  refine gh_lock hp True.intro fun od => ?_
  have ex := ext_but hp (fun z => z) (upd_but' (o := .frz od (ndO X.prog X.w q es)))
  refine k _ ⟨fun b o hb _ => ?_, fun b z => r.hp.alive b (e3 b (alive_but ⟨_, upd_same⟩ upd_but' b z)), fun _ h => nomatch h⟩ (.nd upd_same (e4.ext ex))
  have hne : b ≠ q := fun z => by
    rw [z, g2] at hb
    cases hb
  rw [upd_ne hne]
  refine e2 b o (r.hp.keep b o hb (.inl n.2.1) n.nsrc) fun e he z => ?_
  rw [g3 e he b z] at hb
  cases hb
theorem pe_gh {t : TE} (h : PE X e t) : PE X e (fun σ H Q => t σ H fun v H' => Gh X σ H' (Q v)) :=
  ⟨fun pins s σ H Q I hh => thn (h.run pins s σ H _ I hh) fun u s' ⟨v, H', I', rv, g⟩ => let ⟨H2, I2, q⟩ := g pins s' I'; ⟨v, H2, I2, rv, q⟩⟩
end
end Dl
end
section
set_option Elab.async false
set_option linter.all false
set_option autoImplicit false
set_option maxRecDepth 100000
set_option maxHeartbeats 4000000
/-! Keys: by_keys, in_windows. -/
namespace Dl
open PySem PySem.Spec PyProof.Rows L2
theorem rep_new {P : Program} {w : World} {B : Base} {H : Hp} {σ : L2.St} {ρ : DEnv} {i : Nat} {v : V} (r : Rep P w B H σ ρ) (hρ : ρ.put i .un = ρ) : Rep P w B H (σ.set i (some v)) ρ := by
  have z := r.assign (i := i) (v := v) (s := .un) True.intro (fun z => nomatch z)
  rw [hρ] at z
  exact z
theorem rep_un {P : Program} {w : World} {B : Base} {H H' : Hp} {σ : L2.St} {ρ ρ' : DEnv} (r : Rep P w B H σ ρ) (hs : ρ'.src = ρ.src) (hl : ρ'.sl.length = ρ.sl.length) (h : ∀ (i : Nat) (s : Sl), ρ'.sl[i]? = some s → s = .un ∨ ρ.sl[i]? = some s) : Rep P w B H σ ρ' := by
  have g : ∀ {i : Nat} {s : Sl}, ρ'.sl[i]? = some s → s.own = true → ρ.sl[i]? = some s := fun {i s} a b => by
    rcases h i s a with rfl | z
    · cases b
    · exact z
  refine ⟨by rw [hs]; exact r.hp, hl.trans r.len, fun i s a => ?_, fun i j s t b a1 a2 a3 a4 => r.inj i j s t b (g a1 a2) a2 (g a3 a4) a4, fun b ⟨i, s, a1, a2, a3⟩ => r.new b ⟨i, s, g a1 a2, a2, a3⟩⟩
  rcases h i s a with rfl | z
  · exact True.intro
  · exact r.at_ i s z
theorem bare_of {H : Hp} {σ : L2.St} {ρ : DEnv} (h : ρ.sl.all (fun s => !s.own) = true) : Bare ⟨H, none, []⟩ σ ρ := ⟨rfl, rfl, fun b ⟨i, s, h1, h2, _⟩ => by
  have z := List.all_eq_true.mp h s (List.mem_of_getElem? h1)
  rw [h2] at z
  cases z⟩
theorem byKeys_inv {cs ks d : PyData} {r : List PyData} {acc g : List (NestedKey × List PyData)} (h : byKeysGo cs ks (d :: r) acc = some g) : ∃ row lot vs kd k, d = .tuple [row, lot] ∧ ixD row (.int 2) = some vs ∧ m_worths_of [cs, ks, vs] = some kd ∧ toKey kd = some k ∧ gSmall acc = true ∧ byKeysGo cs ks r (addG acc k d) = some g := by
  unfold byKeysGo at h
  split at h
  · rename_i z
    cases z
  · rename_i acc' row lot r' z
    cases z
    obtain ⟨vs, h1, h2⟩ := bind2 h
    obtain ⟨kd, h3, h4⟩ := bind2 h2
    obtain ⟨k, h5, h6⟩ := bind2 h4
    obtain ⟨h7, h8⟩ := if_inv h6
    exact ⟨row, lot, vs, kd, k, rfl, h1, h3, h5, h7, h8⟩
  · cases h
abbrev nBK : List Str := ["columns", "keys", "given_rows", "found", "row", "lot"]
theorem sc_by_keys : FnScope nBK ["columns", "keys", "given_rows"] (defScope (top 34)) := ⟨rfl, rfl, rfl, by decide +kernel, rfl, by decide +kernel, by decide +kernel⟩
def envBK (cs ks rows : PyData) (a b : Sl) : DEnv := ⟨[.dat cs, .dat ks, .dat rows, .un, a, b], none⟩
theorem dd_by_keys {P : Program} {w : World} {K : PySem.W.Frag} {mg : Str → Option Value} {base : Heap} {f : Addr} {fd : FuncData} (F : FnP K "by_keys" (top 34) f fd) (hf : mg "by_keys" = some (.ref f)) (bt : Bt mg) (d_worths_of : DD P w K mg base "worths_of" 1 [] 3 m_worths_of) : DD P w K mg base "by_keys" 2 [] 3 m_by_keys := by
  refine ⟨⟨f, fd, ["columns", "keys", "given_rows"], F.ok sc_by_keys (fun vs H Q E h => h.1) (fun cdv A outer s H vs Q E hr h => ?_), hf, F.kp, F.bindsN fun _ _ _ _ _ _ us hl => match us, hl with | [_, _, _], _ => rfl⟩, fun ds z h => ?_⟩
  · have nd := sc_by_keys.nd
    obtain ⟨hl, hT, ds, z, a, hm, k⟩ := h
    unfold m_by_keys at hm
    split at hm
    · rename_i cs ks rows
      obtain ⟨g, hm1, hm2⟩ := bind2 hm
      cases Option.some.inj hm2
      have r0 := start_rep (N := nBK) hT a (by show 3 ≤ 6; decide)
      let B : Base := ⟨H, none, []⟩
      refine ⟨_, PSs.nox (pss_cons (ps_set (i := 3) nd rfl (.inl rfl) (vd_N (B := B) rfl).pe)
        (pss_cons (ps_for (PassesOwn.never) rfl (id_dat (B := B) (ed_var 2)).pi (gd_tup (gds_cons (gd_name 4 nd) (gds_cons (gd_name 5 nd) gds_nil))).pg (pss_one (ps_group (B := B) 3 hr (ed_call hr d_worths_of (ad_cons (ed_var 0) (ad_cons (ed_var 1) (ad_cons (ed_ix hr (ed_var 4) ed_int) ad_nil)))) (ed_tup (ad_cons (ed_var 4) (ad_cons (ed_var 5) ad_nil))))))
        (pss_one (ps_ret (pe_gh (pe_var (i := 3) rfl (.inl rfl))))))), ?_⟩
      have r0 : Rep P w B H (L2.start nBK vs) (envBK cs ks (.list rows) .un .un) := r0
      refine ⟨_, _, _, r0, rfl, fun v H1 p1 n1 => ?_⟩
      obtain ⟨⟨q, es0, ev, hq, ae, _⟩, nw⟩ := n1
      cases ev
      cases ae
      have hq0 : H q = none := nw rfl q rfl
      have r1 : Rep P w B H1 ((L2.start nBK vs).set 3 (some (.ref q))) (envBK cs ks (.list rows) .un .un) := rep_new p1.rep rfl
      have g1 : GG P w B H1 q [] := ⟨[], ⟨hq, .nil, .nil, .nil⟩, hq0, fun e he => nomatch he⟩
      have hl3 : ((L2.start nBK vs).set 3 (some (.ref q)))[3]? = some (some (.ref q)) := List.getElem?_set_self (by rw [← p1.rep.len]; show 3 < 6; decide)
      refine ⟨_, rows, _, r1, rfl, fun J H2 p2 wk => ?_⟩
      refine ⟨fun i m σi HH => m = rows.length - i ∧ i ≤ rows.length ∧ ∃ a b kvs, a.own = false ∧ b.own = false ∧ Rep P w B HH σi (envBK cs ks (.list rows) a b) ∧ σi[3]? = some (some (.ref q)) ∧ GG P w B HH q kvs ∧ Ext H2 HH ∧ byKeysGo cs ks (rows.drop i) kvs = some g,
        ⟨rows.length, by simp, Nat.zero_le _, .un, .un, [], rfl, rfl, p2.rep, hl3, g1.same ((bare_of rfl).same p2.fr), .refl H2, hm1⟩, ?_⟩
      rintro i m σi HH ⟨rfl, hi, sa, sb, kvs, oa, ob, ri, hσ, gi, ex, go⟩
      by_cases hlt : i < rows.length
      · have hd : rows[i]? = some rows[i] := List.getElem?_eq_getElem hlt
        rw [List.drop_eq_getElem_cons hlt] at go
        refine .inr ⟨wk.go i HH hlt ex, fun σ' H' => ∃ a b kvs, a.own = false ∧ b.own = false ∧ Rep P w B H' σ' (envBK cs ks (.list rows) a b) ∧ σ'[3]? = some (some (.ref q)) ∧ GG P w B H' q kvs ∧ Ext H2 H' ∧ byKeysGo cs ks (rows.drop (i + 1)) kvs = some g, fun σ' H' z => ⟨rows.length - (i + 1), by omega, rfl, hlt, z⟩, fun x Hx y => ?_⟩
        obtain ⟨sm, ax⟩ := wk.yld i HH x Hx _ ex y hd
        generalize rows[i] = d at go ax
        obtain ⟨row, lot, us, kd, kk, rfl, e1, e2, e3, e4, e5⟩ := byKeys_inv go
        refine ⟨_, [row, lot], ax, rfl, fun vv av => ?_⟩
        have rr : Rep P w B Hx (putV [4, 5] vv σi) (envBK cs ks (.list rows) (.dat row) (.dat lot)) := putAll_rep (ix := [4, 5]) (ri.same sm) av
        have hσ' : (putV [4, 5] vv σi)[3]? = some (some (.ref q)) := by
          cases av with
          | cons b1 b2 => cases b2 with
            | cons b2 b3 =>
              cases b3
              simp [putV, hσ]
        refine ⟨_, kd, envBK cs ks (.list rows) (.dat row) (.dat lot), kk, .tuple [row, lot], envBK cs ks (.list rows) (.dat row) (.dat lot), q, kvs, rr, bare_of rfl, hσ', gi.same sm, ?_, e3, ?_, e4, fun H' r' n' e' g' => ⟨.dat row, .dat lot, _, rfl, rfl, r', hσ', g', (ex.trans (.of sm)).trans e', e5⟩⟩
        · simp [eCall, aCons, aNil, eVar, Dl.e2, eC, envBK, Sl.read, DEnv.froz, e1, e2]
        · simp [eTup, aCons, aNil, eVar, envBK, Sl.read, DEnv.froz, small]
      · have e : i = rows.length := by omega
        subst e
        rw [List.drop_length] at go
        cases Option.some.inj go
        refine .inl ⟨wk.stop HH ex, .ref q, hσ, gh_group ri ?_ gi fun H3 e a => k _ _ e a⟩
        exact bare_of (by show (true && (true && (true && (true && (!sa.own && (!sb.own && true)))))) = true; rw [oa, ob]; rfl)
    · cases hm
  · unfold m_by_keys at h
    split at h
    · rfl
    · cases h
theorem winsAdd_inv {v d : PyData} {r : List PyData} {acc g : List (NestedKey × List PyData)} (h : winsAdd v (d :: r) acc = some g) : ∃ k, toKey d = some k ∧ gSmall acc = true ∧ winsAdd v r (addG acc k v) = some g := by
  unfold winsAdd at h
  obtain ⟨k, h1, h2⟩ := bind2 h
  obtain ⟨h3, h4⟩ := if_inv h2
  exact ⟨k, h1, h3, h4⟩
theorem winsGo_inv {wd d : PyData} {r : List PyData} {acc g : List (NestedKey × List PyData)} (h : winsGo wd (d :: r) acc = some g) : ∃ row lot t sp sps acc', d = .tuple [row, lot] ∧ ixD row (.int 0) = some t ∧ m_spans_of [wd, t] = some sp ∧ itemsD sp = some sps ∧ winsAdd d sps acc = some acc' ∧ winsGo wd r acc' = some g := by
  unfold winsGo at h
  split at h
  · rename_i z
    cases z
  · rename_i acc' row lot r' z
    cases z
    obtain ⟨vs, h1, h2⟩ := bind2 h
    obtain ⟨kd, h3, h4⟩ := bind2 h2
    obtain ⟨k, h5, h6⟩ := bind2 h4
    obtain ⟨a, h7, h8⟩ := bind2 h6
    exact ⟨row, lot, vs, kd, k, a, rfl, h1, h3, h5, h7, h8⟩
  · cases h
abbrev nIW : List Str := ["window", "some", "found", "row", "lot", "span", "lines", "line"]
theorem sc_in_windows : FnScope nIW ["window", "some"] (defScope (top 36)) := ⟨rfl, rfl, rfl, by decide +kernel, rfl, by decide +kernel, by decide +kernel⟩
def envIW (wd rows : PyData) (a b c : Sl) : DEnv := ⟨[.dat wd, .dat rows, .un, a, b, c, .un, .un], none⟩
theorem pss_no {X : Cx} {sts : List Stmt} : PSs X sts (fun _ _ _ => False) := ⟨fun _ _ _ _ _ _ h => h.elim⟩
theorem dd_in_windows {P : Program} {w : World} {K : PySem.W.Frag} {mg : Str → Option Value} {base : Heap} {f : Addr} {fd : FuncData} (F : FnP K "in_windows" (top 36) f fd) (hf : mg "in_windows" = some (.ref f)) (bt : Bt mg) (d_spans_of : DD P w K mg base "spans_of" 1 [] 2 m_spans_of) : DD P w K mg base "in_windows" 2 [] 2 m_in_windows := by
  refine ⟨⟨f, fd, ["window", "some"], F.ok sc_in_windows (fun vs H Q E h => h.1) (fun cdv A outer s H vs Q E hr h => ?_), hf, F.kp, F.bindsN fun _ _ _ _ _ _ us hl => match us, hl with | [_, _], _ => rfl⟩, fun ds z h => ?_⟩
  · have nd := sc_in_windows.nd
    obtain ⟨hl, hT, ds, z, a, hm, k⟩ := h
    unfold m_in_windows at hm
    split at hm
    · rename_i kn wr rows
      by_cases hk : kn = "session"
      · rw [if_pos (by simpa using hk)] at hm
        cases hm
      rw [if_neg (by simpa using hk)] at hm
      obtain ⟨g, hm1, hm2⟩ := bind2 hm
      cases Option.some.inj hm2
      have r0 := start_rep (N := nIW) hT a (by show 2 ≤ 8; decide)
      let B : Base := ⟨H, none, []⟩
      refine ⟨_, PSs.nox (pss_cons (ps_set (i := 2) nd rfl (.inl rfl) (vd_N (B := B) rfl).pe)
        (pss_cons (ps_if (td_cmp (B := B) (op2_Ne hr) (ed_ix hr (ed_var 0) ed_int) ed_str).pt
          (pss_cons (ps_for (PassesOwn.never) rfl (id_dat (B := B) (ed_var 1)).pi (gd_tup (gds_cons (gd_name 3 nd) (gds_cons (gd_name 4 nd) gds_nil))).pg
            (pss_one (ps_for (PassesOwn.never) rfl (id_dat (B := B) (ed_call hr d_spans_of (ad_cons (ed_var 0) (ad_cons (ed_ix hr (ed_var 3) ed_int) ad_nil)))).pi (gd_name 5 nd).pg (pss_one (ps_group (B := B) 2 hr (ed_var 5) (ed_tup (ad_cons (ed_var 3) (ad_cons (ed_var 4) ad_nil))))))))
          (pss_one (ps_ret (pe_gh (pe_var (i := 2) rfl (.inl rfl)))))) pss_nil) pss_no)), ?_⟩
      have r0 : Rep P w B H (L2.start nIW vs) (envIW (.tuple (.str kn :: wr)) (.list rows) .un .un .un) := r0
      refine ⟨_, _, _, r0, rfl, fun v H1 p1 n1 => ?_⟩
      obtain ⟨⟨q, es0, ev, hq, ae, _⟩, nw⟩ := n1
      cases ev
      cases ae
      generalize hwd : PyData.tuple (.str kn :: wr) = wd at *
      have hq0 : H q = none := nw rfl q rfl
      have r1 : Rep P w B H1 ((L2.start nIW vs).set 2 (some (.ref q))) (envIW wd (.list rows) .un .un .un) := rep_new p1.rep rfl
      have g1 : GG P w B H1 q [] := ⟨[], ⟨hq, .nil, .nil, .nil⟩, hq0, fun e he => nomatch he⟩
      have hl3 : ((L2.start nIW vs).set 2 (some (.ref q)))[2]? = some (some (.ref q)) := List.getElem?_set_self (by rw [← p1.rep.len]; show 2 < 8; decide)
      refine ⟨_, true, envIW wd (.list rows) .un .un .un, r1, ?_, fun H1' p1' => ?_⟩
      · subst hwd
        have hix : ixD (.tuple (.str kn :: wr)) (.int 0) = some (.str kn) := by
          show L2.atI _ 0 = _
          unfold L2.atI
          rw [show L2.ixN (PyData.str kn :: wr).length 0 = some 0 by unfold L2.ixN; simp]
          rfl
        have hne : opNe (.str kn) (.str "session") = some (.bool true) := by
          show (some (decide (kn = "session"))).bind _ = _
          rw [decide_eq_false hk]
          rfl
        simp [tB, Dl.e2, eVar, eC, envIW, Sl.read, DEnv.froz, hix, hne]
      dsimp only
      rw [if_pos rfl]
      refine ⟨_, rows, envIW wd (.list rows) .un .un .un, p1'.rep, rfl, fun J H2 p2 wk => ?_⟩
      have g2 : GG P w B H2 q [] := (g1.same ((bare_of rfl).same p1'.fr)).same ((bare_of rfl).same p2.fr)
      refine ⟨fun i m σi HH => m = rows.length - i ∧ i ≤ rows.length ∧ ∃ a b c kvs, a.own = false ∧ b.own = false ∧ c.own = false ∧ Rep P w B HH σi (envIW wd (.list rows) a b c) ∧ σi[2]? = some (some (.ref q)) ∧ GG P w B HH q kvs ∧ Ext H2 HH ∧ winsGo wd (rows.drop i) kvs = some g,
        ⟨rows.length, by simp, Nat.zero_le _, .un, .un, .un, [], rfl, rfl, rfl, p2.rep, hl3, g2, .refl H2, hm1⟩, ?_⟩
      rintro i m σi HH ⟨rfl, hi, sa, sb, sc, kvs, oa, ob, oc, ri, hσ, gi, ex, go⟩
      by_cases hlt : i < rows.length
      · have hd : rows[i]? = some rows[i] := List.getElem?_eq_getElem hlt
        rw [List.drop_eq_getElem_cons hlt] at go
        refine .inr ⟨wk.go i HH hlt ex, fun σ' H' => ∃ a b c kvs, a.own = false ∧ b.own = false ∧ c.own = false ∧ Rep P w B H' σ' (envIW wd (.list rows) a b c) ∧ σ'[2]? = some (some (.ref q)) ∧ GG P w B H' q kvs ∧ Ext H2 H' ∧ winsGo wd (rows.drop (i + 1)) kvs = some g, fun σ' H' z => ⟨rows.length - (i + 1), by omega, rfl, hlt, z⟩, fun x Hx y => ?_⟩
        obtain ⟨sm, ax⟩ := wk.yld i HH x Hx _ ex y hd
        generalize rows[i] = d at go ax
        obtain ⟨row, lot, t, sp, sps, acc', rfl, e1, e2, e3, e4, e5⟩ := winsGo_inv go
        refine ⟨_, [row, lot], ax, rfl, fun vv av => ?_⟩
        have rr : Rep P w B Hx (putV [3, 4] vv σi) (envIW wd (.list rows) (.dat row) (.dat lot) sc) := putAll_rep (ix := [3, 4]) (ri.same sm) av
        have hσ' : (putV [3, 4] vv σi)[2]? = some (some (.ref q)) := by
          cases av with
          | cons b1 b2 => cases b2 with
            | cons b2 b3 =>
              cases b3
              simp [putV, hσ]
        have oo : (envIW wd (.list rows) (.dat row) (.dat lot) sc).sl.all (fun s => !s.own) = true := by
          show (true && (true && (true && (true && (true && (!sc.own && (true && (true && true)))))))) = true
          rw [oc]
          rfl
        refine ⟨_, sps, envIW wd (.list rows) (.dat row) (.dat lot) sc, rr, ?_, fun J2 H3 p3 wk2 => ?_⟩
        · simp [iDat, eCall, aCons, aNil, eVar, Dl.e2, eC, envIW, Sl.read, DEnv.froz, e1, e2, e3]
        have s3 := (bare_of oo).same p3.fr
        have sH : Ext H2 H3 := (ex.trans (.of sm)).trans (.of s3)
        refine ⟨fun j m2 σj HJ => m2 = sps.length - j ∧ j ≤ sps.length ∧ ∃ c kvs', c.own = false ∧ Rep P w B HJ σj (envIW wd (.list rows) (.dat row) (.dat lot) c) ∧ σj[2]? = some (some (.ref q)) ∧ GG P w B HJ q kvs' ∧ Ext H3 HJ ∧ winsAdd (.tuple [row, lot]) (sps.drop j) kvs' = some acc',
          ⟨sps.length, by simp, Nat.zero_le _, sc, kvs, oc, p3.rep, hσ', (gi.same sm).same s3, .refl H3, e4⟩, ?_⟩
        rintro j m2 σj HJ ⟨rfl, hj, sd, kvs', od, rj, hσj, gj, exj, goj⟩
        by_cases hlt2 : j < sps.length
        · have hdj : sps[j]? = some sps[j] := List.getElem?_eq_getElem hlt2
          rw [List.drop_eq_getElem_cons hlt2] at goj
          refine .inr ⟨wk2.go j HJ hlt2 exj, fun σ' H' => ∃ c kvs', c.own = false ∧ Rep P w B H' σ' (envIW wd (.list rows) (.dat row) (.dat lot) c) ∧ σ'[2]? = some (some (.ref q)) ∧ GG P w B H' q kvs' ∧ Ext H3 H' ∧ winsAdd (.tuple [row, lot]) (sps.drop (j + 1)) kvs' = some acc', fun σ' H' z => ⟨sps.length - (j + 1), by omega, rfl, hlt2, z⟩, fun x2 Hx2 y2 => ?_⟩
          obtain ⟨sm2, ax2⟩ := wk2.yld j HJ x2 Hx2 _ exj y2 hdj
          generalize sps[j] = sd' at goj ax2
          obtain ⟨kk, f1, f2, f3⟩ := winsAdd_inv goj
          refine ⟨_, [sd'], ax2, rfl, fun v2 av2 => ?_⟩
          have rr2 : Rep P w B Hx2 (putV [5] v2 σj) (envIW wd (.list rows) (.dat row) (.dat lot) (.dat sd')) := putAll_rep (ix := [5]) (rj.same sm2) av2
          have hσ2 : (putV [5] v2 σj)[2]? = some (some (.ref q)) := by
            cases av2 with
            | cons b1 b2 =>
              cases b2
              simp [putV, hσj]
          refine ⟨envIW wd (.list rows) (.dat row) (.dat lot) (.dat sd'), sd', envIW wd (.list rows) (.dat row) (.dat lot) (.dat sd'), kk, .tuple [row, lot], envIW wd (.list rows) (.dat row) (.dat lot) (.dat sd'), q, kvs', rr2, bare_of rfl, hσ2, gj.same sm2, rfl, f1, rfl, f2, fun H' r' n' e' g' => ⟨.dat sd', _, rfl, r', hσ2, g', (exj.trans (.of sm2)).trans e', f3⟩⟩
        · have e : j = sps.length := by omega
          subst e
          rw [List.drop_length] at goj
          cases Option.some.inj goj
          exact .inl ⟨wk2.stop HJ exj, .dat row, .dat lot, sd, _, rfl, rfl, od, rj, hσj, gj, sH.trans exj, e5⟩
      · have e : i = rows.length := by omega
        subst e
        rw [List.drop_length] at go
        cases Option.some.inj go
        refine .inl ⟨wk.stop HH ex, .ref q, hσ, gh_group ri ?_ gi fun H3 e a => k _ _ e a⟩
        refine bare_of ?_
        show (true && (true && (true && (!sa.own && (!sb.own && (!sc.own && (true && (true && true)))))))) = true
        rw [oa, ob, oc]
        rfl
    · cases hm
  · unfold m_in_windows at h
    split at h
    · rfl
    · cases h
end Dl
end
section
set_option Elab.async false
set_option linter.all false
set_option autoImplicit false
set_option maxRecDepth 100000
set_option maxHeartbeats 4000000
/-! Tog: sorted(a set of entries), together. -/
namespace Dl
open PySem PySem.Spec PyProof.Rows L2
open PySem.W (EachIs AllAlike Sortable dataLe keyToks keyToksAll)
theorem flat_ent {d : PyData} (h : flatD d = true) : ∃ k, d = entD k := by
  cases d with
  | tuple ds =>
    have z : ds.all flatK = true := h
    suffices ∃ k : List Key, ds = k.map keyData from let ⟨k, e⟩ := this; ⟨k, by rw [e]; rfl⟩
    clear h
    induction ds with
    | nil => exact ⟨[], rfl⟩
    | cons d ds ih =>
      rw [List.all_cons, Bool.and_eq_true] at z
      obtain ⟨k, rfl⟩ := ih z.2
      cases d with
      | int i => exact ⟨.inl i :: k, rfl⟩
      | str x => exact ⟨.inr x :: k, rfl⟩
      | _ => exact absurd z.1 (by simp [flatK])
  | _ => cases h
theorem toK_key (a : Key) : ∃ k, toK (keyData a) = some k ∧ k.data = keyData a := by
  cases a with
  | inl i => exact ⟨.num i, rfl, rfl⟩
  | inr x => exact ⟨.text x, rfl, rfl⟩
theorem toKs_ent : ∀ k : List Key, ∃ ks, toKs (k.map keyData) = some ks ∧ NestedKey.datas ks = k.map keyData
  | [] => ⟨[], rfl, rfl⟩
  | a :: k => by
    obtain ⟨x, h1, h2⟩ := toK_key a
    obtain ⟨ks, h3, h4⟩ := toKs_ent k
    refine ⟨x :: ks, ?_, ?_⟩
    · rw [List.map_cons, toKs, h1]
      show (toKs (k.map keyData)).bind _ = _
      rw [h3]
      rfl
    · rw [NestedKey.datas, h2, h4, List.map_cons]
theorem toK_ent (k : List Key) : ∃ x, toK (entD k) = some x ∧ x.data = entD k := by
  obtain ⟨ks, h1, h2⟩ := toKs_ent k
  refine ⟨.tup ks, ?_, ?_⟩
  · unfold entD
    rw [toK, h1]
    rfl
  · rw [NestedKey.data, h2]
    rfl
theorem toK_same {a b : List Key} : toK (entD a) = toK (entD b) ↔ a = b := by
  refine ⟨fun h => ?_, fun h => by rw [h]⟩
  obtain ⟨x, h1, h2⟩ := toK_ent a
  obtain ⟨y, h3, h4⟩ := toK_ent b
  rw [h1, h3] at h
  cases h
  exact entD_inj (h2.symm.trans h4)
open Classical in
noncomputable def firstK : List (List Key) → List (List Key) → List (List Key)
  | [], acc => acc
  | k :: ks, acc => if k ∈ acc then firstK ks acc else firstK ks (acc ++ [k])
open Classical in
theorem firstOf_ent : ∀ (ks acc : List (List Key)), firstOf (ks.map entD) (acc.map entD) = (firstK ks acc).map entD
  | [], acc => rfl
  | k :: ks, acc => by
    rw [List.map_cons, firstOf, firstK]
    have e : ((acc.map entD).any fun e => decide (toK e = toK (entD k))) = decide (k ∈ acc) := by
      rw [Bool.eq_iff_iff, List.any_eq_true, decide_eq_true_eq]
      constructor
      · rintro ⟨d, hd, h⟩
        obtain ⟨a, ha, rfl⟩ := List.mem_map.mp hd
        rw [← toK_same.mp (of_decide_eq_true h)]
        exact ha
      · exact fun h => ⟨_, List.mem_map.mpr ⟨k, h, rfl⟩, by simp⟩
    rw [e]
    by_cases h : k ∈ acc
    · rw [if_pos h, if_pos (by simpa using h), firstOf_ent ks acc]
    · rw [if_neg h, if_neg (by simpa using h)]
      have z := firstOf_ent ks (acc ++ [k])
      rw [List.map_append] at z
      exact z
open Classical in
theorem firstK_nd : ∀ {ks acc : List (List Key)}, acc.Nodup → (firstK ks acc).Nodup
  | [], acc, h => h
  | k :: ks, acc, h => by
    rw [firstK]
    by_cases hk : k ∈ acc
    · rw [if_pos hk]
      exact firstK_nd h
    · rw [if_neg hk]
      refine firstK_nd (List.nodup_append.mpr ⟨h, by simp, fun a ha b hb e => ?_⟩)
      rw [List.mem_singleton.mp hb] at e
      exact hk (e ▸ ha)
open Classical in
theorem firstK_mem : ∀ {ks acc : List (List Key)} {k : List Key}, k ∈ firstK ks acc ↔ k ∈ ks ∨ k ∈ acc
  | [], acc, k => by simp [firstK]
  | x :: ks, acc, k => by
    rw [firstK]
    by_cases hk : x ∈ acc
    · rw [if_pos hk, firstK_mem]
      constructor
      · exact fun h => h.elim (fun z => .inl (List.mem_cons_of_mem _ z)) .inr
      · rintro (h | h)
        · rcases List.mem_cons.mp h with rfl | h
          · exact .inr hk
          · exact .inl h
        · exact .inr h
    · rw [if_neg hk, firstK_mem]
      simp only [List.mem_append, List.mem_cons, List.not_mem_nil, or_false]
      constructor
      · rintro (h | h | h)
        · exact .inl (.inr h)
        · exact .inr h
        · exact .inl (.inl h)
      · rintro ((h | h) | h)
        · exact .inr (.inr h)
        · exact .inl h
        · exact .inr (.inl h)
theorem perm_lift {α β : Type} {f : α → β} {xs ys : List β} (p : xs.Perm ys) : ∀ L : List α, ys = L.map f → ∃ L1 : List α, L1.Perm L ∧ xs = L1.map f := by
  induction p with
  | nil =>
    intro L h
    exact ⟨[], by rw [List.map_eq_nil_iff.mp h.symm], rfl⟩
  | cons x _ ih =>
    intro L h
    cases L with
    | nil => cases h
    | cons a L =>
      rw [List.map_cons] at h
      injection h with h1 h2
      obtain ⟨L1, p1, e1⟩ := ih L h2
      exact ⟨a :: L1, p1.cons a, by rw [List.map_cons, h1, e1]⟩
  | swap x y l =>
    intro L h
    cases L with
    | nil => cases h
    | cons a L => cases L with
      | nil => cases h
      | cons b L =>
        rw [List.map_cons, List.map_cons] at h
        injection h with h1 h2
        injection h2 with h2 h3
        exact ⟨b :: a :: L, .swap .., by rw [List.map_cons, List.map_cons, h1, h2, h3]⟩
  | trans _ _ ih1 ih2 =>
    intro L h
    obtain ⟨L1, p1, e1⟩ := ih2 L h
    obtain ⟨L2, p2, e2⟩ := ih1 L1 e1
    exact ⟨L2, p2.trans p1, e2⟩
theorem flat_reads {P : Program} {w : World} {h : Heap} : ∀ {k : List Key} {us : List Value}, ItemsAre (mixKind P w) k us → ReadsAll h us (k.map keyData) []
  | _, _, .nil => .nil
  | _, _, @ItemsAre.cons _ _ _ _ _ x v ks vs h1 r => by
    have q := flat_reads (h := h) r
    rcases keyIs_shape h1 with ⟨i, t, rfl, rfl⟩ | ⟨y, t, rfl, rfl⟩
    · have z := ReadsAll.cons (.int i t) q
      exact z
    · have z := ReadsAll.cons (.str y t) q
      exact z
theorem ent_reads {P : Program} {w : World} {h : Heap} {k : List Key} {b : Addr} (x : IsE P w h k b) : Reads h (.ref b) (entD k) [] := by
  obtain ⟨o, its, n, e1, e2, e3, e4⟩ := x
  exact .tuple e1 e2 e3 (flat_reads e4)
section
variable {X : Cx}
def rSortE (X : Cx) : List V → Hp → VK → Prop := fun vs H Q => ∃ (a : Addr) (M : List Ent), vs = [.ref a] ∧ H a = some (SetEO X.prog X.w a M) ∧ (∀ e ∈ M, At X.prog X.w H (.ref e.1) (entD e.2)) ∧ alikeOk (M.map fun e => entD e.2) = true ∧
  ∀ p ys H', H p = none → H' = upd H p (.lst ys) → AtAll X.prog X.w H' ys ((firstOf (M.map fun e => entD e.2) []).mergeSort (dataLe false fun d => d)) → Q (.ref p) H'
theorem cr_sortE (hc : X.calm = true) (hu : X.A.units + 64 < cLine) : CallR X (.builtin "sorted") (rSortE X) := by
  intro pins s σ H vs us Q I r h
  obtain ⟨a, M, rfl, ha, hM, hal, q⟩ := h
  rw [Vals.ref1 r]
  have R : SetOK X.prog X.w a M s.heap := (I.hok a _ ha).1
  obtain ⟨L, rows, ep, tb, S, l1, l2, l3⟩ := R
  obtain ⟨o, o1, o2, o3⟩ := S.obj
  have rl := rows_len S.eq
  have few := S.few
  refine Calls.call_function_entry kind_sorted plain_sorted entry_sorted (args_sorted1 _) ?_
  unfold Builtin.«sorted»
  refine wpAny_bind (m := checkCount "sorted" 1 1 _) (wpAny_pure ?_)
  refine wpAny_bind (collect_set (A := X.A.in1) (I.ok.hd hc) ⟨o, o1, o2.1, o3⟩ S.fits (by unfold scanBound; omega) S.tab.ris S.led fun s1 out keep big gens os pm => ?_)
  have em : rows.toList.map (·.2) = L.map fun e => Value.ref e.1 := by
    rw [S.eq, eRows, List.map_map]
    rfl
  rw [em] at pm
  obtain ⟨L1, p1, rfl⟩ := perm_lift pm L rfl
  have len1 : L1.length < 64 := by rw [p1.length_eq]; exact few
  refine wpAny_bind (wpAny_newList ?_ (by rw [sizeLine_eq, List.length_map]; omega))
  have hl : (s1.heap.push (seqObj "list" (L1.map fun e => Value.ref e.1).toArray 0)).get? s1.heap.objs.size = some (seqObj "list" (L1.map fun e => Value.ref e.1).toArray 0) := Heap.get?_push_size _ rfl
  have isE : ∀ e ∈ L1, IsE X.prog X.w (s1.heap.push (seqObj "list" (L1.map fun e => Value.ref e.1).toArray 0)) e.2 e.1 := fun e he => isE_keep (at_isE I (hM e (l1 e (p1.mem_iff.mp he)))) fun b u k => Heap.get?_push_of_some _ (keep b u k)
  have each1 : ∀ l : List Ent, EachIs (fun (v : Value) (e : Ent) => v = .ref e.1) (l.map fun e => Value.ref e.1) l := fun l => by
    induction l with
    | nil => exact .nil
    | cons e l ih => exact .cons rfl ih
  have each2 : ∀ l : List Ent, (∀ e ∈ l, e ∈ L1) → EachIs (fun (v : Value) (e : Ent) => ∃ as, Reads (s1.heap.push (seqObj "list" (L1.map fun e => Value.ref e.1).toArray 0)) v (entD e.2) as ∧ s1.heap.objs.size ∉ as) (l.map fun e => Value.ref e.1) l := fun l hl => by
    induction l with
    | nil => exact .nil
    | cons e l ih => exact .cons ⟨[], ent_reads (isE e (hl e List.mem_cons_self)), fun z => nomatch z⟩ (ih fun x hx => hl x (List.mem_cons_of_mem _ hx))
  obtain ⟨al1, al2, al3, al4⟩ := alikeOk_inv hal
  have memD : ∀ d ∈ L1.map (fun e => entD e.2), d ∈ M.map fun e => entD e.2 := fun d hd => by
    obtain ⟨e, he, rfl⟩ := List.mem_map.mp hd
    exact List.mem_map.mpr ⟨e, l1 e (p1.mem_iff.mp he), rfl⟩
  refine wpAny_bind (wpAny_holding (PySem.W.list_sort_data (s := { s1 with heap := s1.heap.push (seqObj "list" (L1.map fun e => Value.ref e.1).toArray 0) }) (β := Ent) (bs := L1) (enc := fun e => entD e.2) hl (each1 L1) (each2 L1 fun _ h => h) (fun d hd e he => al1 d (memD d hd) e (memD e he)) ?_ (by rw [sizeLine_eq]; omega) (fun e he => ?_) fun out2 len2 each3 => ?_))
  · exact .inl fun d hd => by
      have z := al2
      rcases z with z | z
      · exact z d (memD d hd)
      · obtain ⟨e, he, rfl⟩ := List.mem_map.mp hd
        have hx := memD _ hd
        have y := List.all_eq_true.mp (by
          unfold alikeOk at hal
          simp only [Bool.and_eq_true] at hal
          exact hal.1.2) _ hx
        split at y
        · exact ⟨_, _, by assumption⟩
        · cases y
  · have := al3 _ (memD _ (List.mem_map.mpr ⟨e, he, rfl⟩))
    show X.A.units + 1 + 1 + _ < cLine
    omega
  · have eo : out2 = (L1.mergeSort (dataLe false fun e => entD e.2)).map fun e => Value.ref e.1 := by
      generalize L1.mergeSort (dataLe false fun e => entD e.2) = L2 at each3
      clear len2
      induction each3 with
      | nil => rfl
      | cons h _ ih => rw [h, List.map_cons, ← ih]
    obtain ⟨c, hcp⟩ := sortedHeap_at (vs := L1.map fun e => Value.ref e.1) (out := out2.toArray) hl
    have hn : H s1.heap.objs.size = none := I.hok.fresh big
    have kp : ∀ b u, s.heap.get? b = some u → (sortedHeap (s1.heap.push (seqObj "list" (L1.map fun e => Value.ref e.1).toArray 0)) s1.heap.objs.size (L1.map fun e => Value.ref e.1) out2.toArray).get? b = some u := fun b u k => by
      have z := keep b u k
      have lt := Heap.lt_size z
      rw [sortedHeap_old (Nat.ne_of_lt lt) (by rw [size_push']; exact Nat.lt_succ_of_lt lt)]
      exact Heap.get?_push_of_some _ z
    have hv : Vals ((L1.mergeSort (dataLe false fun e => entD e.2)).map fun e => V.ref e.1) out2 := by
      rw [eo]
      generalize L1.mergeSort (dataLe false fun e => entD e.2) = L2
      induction L2 with
      | nil => exact .nil
      | cons e l ih => exact .cons rfl ih
    have hlen : ((L1.mergeSort (dataLe false fun e => entD e.2)).map fun e => V.ref e.1).length ≤ sizeLine := by
      rw [List.length_map, List.length_mergeSort, sizeLine_eq]
      omega
    refine wpAny_pure ⟨_, rfl, ?_⟩
    generalize sortedHeap (s1.heap.push (seqObj "list" (L1.map fun e => Value.ref e.1).toArray 0)) s1.heap.objs.size (L1.map fun e => Value.ref e.1) out2.toArray = hf at kp hcp
    have J : Inv X pins σ (upd H s1.heap.objs.size (.lst ((L1.mergeSort (dataLe false fun e => entD e.2)).map fun e => V.ref e.1))) { s with heap := hf, gens := s1.gens, drawn := s1.drawn, toks := s1.toks } :=
      I.call (ch := []) (Un.laid kp big hn) (I.hok.laid kp big ⟨hlen, out2, c, hv, by simpa using hcp⟩) (by rw [gens]; exact I.bare) (fun _ z => nomatch z)
    have es : ({ s1 with heap := hf } : Shared) = { s with heap := hf, gens := s1.gens, drawn := s1.drawn, toks := s1.toks } := by
      cases s1
      cases s
      cases os
      rfl
    show EP X pins σ Q (.ref s1.heap.objs.size) { s1 with heap := hf }
    rw [es]
    refine ⟨.ref s1.heap.objs.size, _, J, rfl, q _ _ _ hn rfl ?_⟩
    have sd : (L1.mergeSort (dataLe false fun e => entD e.2)).map (fun e => entD e.2) = (firstOf (M.map fun e => entD e.2) []).mergeSort (dataLe false fun d => d) := by
      have e1 := PySem.W.sort_maps (r := dataLe false fun e : Ent => entD e.2) (s := dataLe false fun d => d) (fun e : Ent => entD e.2) (l := L1) fun _ _ _ _ => rfl
      rw [e1]
      have e2 : (M.map fun e => entD e.2) = (M.map (·.2)).map entD := by rw [List.map_map]; rfl
      have e3 : (L1.map fun e => entD e.2) = (L1.map (·.2)).map entD := by rw [List.map_map]; rfl
      have e4 := firstOf_ent (M.map (·.2)) []
      rw [List.map_nil] at e4
      rw [e2, e3, e4]
      refine sort_perm ((p1.map (·.2)).trans ((List.perm_ext_iff_of_nodup S.one (firstK_nd .nil)).mpr fun k => ?_))
      rw [firstK_mem]
      constructor
      · intro hk
        obtain ⟨e, he, rfl⟩ := List.mem_map.mp hk
        exact .inl (List.mem_map.mpr ⟨e, l1 e he, rfl⟩)
      · rintro (hk | hk)
        · obtain ⟨e, he, rfl⟩ := List.mem_map.mp hk
          exact l2 e he
        · cases hk
    rw [← sd]
    have mem2 : ∀ e ∈ L1.mergeSort (dataLe false fun e => entD e.2), e ∈ M := fun e he => l1 e (p1.mem_iff.mp ((List.mergeSort_perm _ _).mem_iff.mp he))
    have ex : Ext H (upd H s1.heap.objs.size (.lst ((L1.mergeSort (dataLe false fun e => entD e.2)).map fun e => V.ref e.1))) := .of (same_new hn)
    generalize L1.mergeSort (dataLe false fun e => entD e.2) = L2 at mem2 ex
    generalize upd H s1.heap.objs.size (.lst (L2.map fun e => V.ref e.1)) = H9 at ex
    induction L2 with
    | nil => exact .nil
    | cons e l ih => exact .cons ((hM e (mem2 e List.mem_cons_self)).ext ex) (ih fun x hx => mem2 x (List.mem_cons_of_mem _ hx))
end
end Dl
end
section
set_option Elab.async false
set_option linter.all false
set_option autoImplicit false
set_option maxRecDepth 100000
set_option maxHeartbeats 4000000
/-! Tog2: together. -/
namespace Dl
open PySem PySem.Spec PyProof.Rows L2
open PySem.W (dataLe)
theorem lotItems_cons {d : PyData} {ds es : List PyData} (h : lotItems (d :: ds) = some es) : ∃ xs ys, itemsD d = some xs ∧ lotItems ds = some ys ∧ es = xs ++ ys := by
  unfold lotItems at h
  obtain ⟨xs, h1, h2⟩ := bind2 h
  obtain ⟨ys, h3, h4⟩ := bind2 h2
  exact ⟨xs, ys, h1, h3, (Option.some.inj h4).symm⟩
section
variable {X : Cx} {B : Base} {pos p : Pos}
theorem el_tog {j : Nat} {sc : Scope} {p0 p1 p2 p3 p4 ps : Pos} (nd : X.N.Nodup) (hr : Room j X.A) (hm : X.mg "sorted" = none) (hN0 : X.N[0]? = some ("lots" : Str) := by rfl) (hN1 : X.N[1]? = some ("lot" : Str) := by rfl) (hN2 : X.N[2]? = some ("entry" : Str) := by rfl) (hv0 : Vis X.env.scope "lots" := by first | exact Or.inl rfl | exact Or.inr (Or.inl rfl) | exact Or.inr (Or.inr rfl))
    (ok : BlkOk X.N X.env.scope sc [("lot", 1), ("entry", 2)] := by exact blkOk_by (by decide +kernel)) (hc : X.calm = true := by rfl) (hg : Gl X "sorted" := by rfl) (hb1 : ∀ (s : Shared) (H : Hp) (C : Addr) (cl : List (Str × Addr)) (fp : List Addr), Loc (Blk X sc s H C cl fp).env.scope "lot" ∧ Vis (Blk X sc s H C cl fp).env.scope "lot" ∧ Loc (Blk X sc s H C cl fp).env.scope "entry" ∧ Vis (Blk X sc s H C cl fp).env.scope "entry")
    (hb2 : ∀ (s : Shared) (H : Hp) (C : Addr) (cl : List (Str × Addr)) (fp : List Addr), ((Blk X sc s H C cl fp).fn "lot" = true ∨ (Blk X sc s H C cl fp).env.scope.names.lookup ("lot" : Str) = some .local) ∧ ((Blk X sc s H C cl fp).fn "entry" = true ∨ (Blk X sc s H C cl fp).env.scope.names.lookup ("entry" : Str) = some .local))
    (hs : starEach [SC2 (.Name "entry" p0) (.Name "lot" p1) (.Name "lots" p2) (.Name "entry" p3) (.Name "lot" p4) sc ps] X.env = [(false, eval (SC2 (.Name "entry" p0) (.Name "lot" p1) (.Name "lots" p2) (.Name "entry" p3) (.Name "lot" p4) sc ps) X.env)] := by rfl) :
    EL B X (.Call (.Name "sorted" p) [SC2 (.Name "entry" p0) (.Name "lot" p1) (.Name "lots" p2) (.Name "entry" p3) (.Name "lot" p4) sc ps] [] pos) lTog := by
  have hu := hr.units
  refine el_of (pe_callB (cr_sortE hc (by omega)) hg hm (by decide +kernel) (pa_cons (pe_sc2 (v1 := [2]) (wi1 := fun σ H R => iList X.K (tVar 1) σ H R ∨ iTup X.K (tVar 1) σ H R) (g := gName 1) (g1 := gName 2) (te := tVar 2) hc nd (id_dat (B := B) (ed_var 0 (hN := hN0) (hv := hv0))).pi ok (by decide)
    (fun s H C cl fp => pg_name (X := Blk X sc s H C cl fp) nd hN1 (hb1 s H C cl fp).1 (hb2 s H C cl fp).1) (fun s H C cl fp => pi_orR (X := Blk X sc s H C cl fp) (pi_list (X := Blk X sc s H C cl fp) (pe_var (X := Blk X sc s H C cl fp) hN1 (hb1 s H C cl fp).2.1)) (pi_tup (X := Blk X sc s H C cl fp) (pe_var (X := Blk X sc s H C cl fp) hN1 (hb1 s H C cl fp).2.1)))
    (fun s H C cl fp => pg_name (X := Blk X sc s H C cl fp) nd hN2 (hb1 s H C cl fp).2.2.1 (hb2 s H C cl fp).2) (fun s H C cl fp => pe_var (X := Blk X sc s H C cl fp) hN2 (hb1 s H C cl fp).2.2.2) (by omega)) pa_nil (by rw [hs]; rfl)) (by decide) (by decide) (by rw [hs]; rfl) (by rfl)) fun σ H ρ out ρ' r hf => ?_
  obtain ⟨⟨d, ρ1⟩, h1, h2⟩ := bind2 hf
  dsimp only at h2
  cases d with
  | list lots =>
    dsimp only at h2
    obtain ⟨es, h3, h4⟩ := bind2 h2
    obtain ⟨h5, h6⟩ := if_inv h4
    obtain ⟨rfl, rfl⟩ := pair2 h6
    simp only [Bool.and_eq_true, decide_eq_true_eq] at h5
    obtain ⟨⟨⟨g1, g2⟩, g3⟩, g4⟩ := h5
    have flat : ∀ d ∈ es, ∃ k, d = entD k := fun d hd => flat_ent (List.all_eq_true.mp g2 d hd)
    refine ⟨ρ, lots, ρ1, r, ?_, fun J H1 q1 wk D hD => ?_⟩
    · unfold iDat
      rw [h1]
      rfl
    have lenσ : 2 < σ.length := by
      rw [← q1.rep.len]
      exact g4
    refine ⟨fun i n G => n = lots.length - i ∧ i ≤ lots.length ∧ ∃ M rest, Same H1 G ∧ G D = some (SetEO X.prog X.w D M) ∧ (∀ e ∈ M, At X.prog X.w G (.ref e.1) (entD e.2)) ∧ lotItems (lots.drop i) = some rest ∧ (M.map fun e => entD e.2) ++ rest = es,
      ⟨lots.length, by simp, Nat.zero_le _, [], es, same_new hD, upd_same, (fun _ h => nomatch h), h3, rfl⟩, ?_⟩
    rintro i n G ⟨rfl, hi, M, rest, sm, hM, aM, hrest, hes⟩
    by_cases hlt : i < lots.length
    · have hd : lots[i]? = some lots[i] := List.getElem?_eq_getElem hlt
      rw [List.drop_eq_getElem_cons hlt] at hrest
      refine .inr ⟨wk.go i G hlt (.of sm), fun G' => ∃ M rest, Same H1 G' ∧ G' D = some (SetEO X.prog X.w D M) ∧ (∀ e ∈ M, At X.prog X.w G' (.ref e.1) (entD e.2)) ∧ lotItems (lots.drop (i + 1)) = some rest ∧ (M.map fun e => entD e.2) ++ rest = es, fun G' z => ⟨lots.length - (i + 1), by omega, rfl, hlt, z⟩, fun x G' y => ?_⟩
      obtain ⟨sm2, ax⟩ := wk.yld i G x G' _ (.of sm) y hd
      generalize lots[i] = lot at hrest ax
      obtain ⟨xs, ys, e1, e2, rfl⟩ := lotItems_cons hrest
      have wp : wipe ((wipe σ [1, 2]).set 1 (some x)) [1, 2] = wipe σ [1, 2] := wipe_putV (ix := [1]) (us := [x]) (by decide)
      refine ⟨wp, ?_⟩
      have slot : ((wipe σ [1, 2]).set 1 (some x))[1]? = some (some x) := List.getElem?_set_self (by rw [wipe_length]; omega)
      -- what the second loop does
      have body : ∀ J1 : It, Wk X.prog X.w J1 G' xs → tIn2 X.prog X.w D (gName 2) (tVar 2) [2] ((wipe σ [1, 2]).set 1 (some x)) (fun G' => ∃ M rest, Same H1 G' ∧ G' D = some (SetEO X.prog X.w D M) ∧ (∀ e ∈ M, At X.prog X.w G' (.ref e.1) (entD e.2)) ∧ lotItems (lots.drop (i + 1)) = some rest ∧ (M.map fun e => entD e.2) ++ rest = es) J1 G' := by
        intro J1 wk1
        refine ⟨fun k n G2 => n = xs.length - k ∧ k ≤ xs.length ∧ ∃ M, Same H1 G2 ∧ Ext G' G2 ∧ G2 D = some (SetEO X.prog X.w D M) ∧ (∀ e ∈ M, At X.prog X.w G2 (.ref e.1) (entD e.2)) ∧ (M.map fun e => entD e.2) ++ (xs.drop k ++ ys) = es,
          ⟨xs.length, by simp, Nat.zero_le _, M, sm.trans sm2, .refl G', sm2 _ _ hM, fun e he => (aM e he).ext (.of sm2), by simpa using hes⟩, ?_⟩
        rintro k n G2 ⟨rfl, hk, M2, s2, x2, hM2, aM2, hes2⟩
        by_cases hlt2 : k < xs.length
        · have hd2 : xs[k]? = some xs[k] := List.getElem?_eq_getElem hlt2
          rw [List.drop_eq_getElem_cons hlt2] at hes2
          refine .inr ⟨wk1.go k G2 hlt2 x2, fun G3 => ∃ M, Same H1 G3 ∧ Ext G' G3 ∧ G3 D = some (SetEO X.prog X.w D M) ∧ (∀ e ∈ M, At X.prog X.w G3 (.ref e.1) (entD e.2)) ∧ (M.map fun e => entD e.2) ++ (xs.drop (k + 1) ++ ys) = es, fun G3 z => ⟨xs.length - (k + 1), by omega, rfl, hlt2, z⟩, fun x3 G3 y3 => ?_⟩
          obtain ⟨s3, a3⟩ := wk1.yld k G2 x3 G3 _ x2 y3 hd2
          generalize xs[k] = dd at hes2 a3
          obtain ⟨kk, rfl⟩ := flat dd (by rw [← hes2]; simp)
          obtain ⟨xa, vs, rfl, _, _⟩ := a3.tup_inv
          refine ⟨wipe_putV (ix := [2]) (us := [.ref xa]) (by decide), .ref xa, List.getElem?_set_self (by rw [wipe_length, List.length_set, wipe_length]; omega), xa, kk, M2, rfl, s3 _ _ hM2, fun e he => (aM2 e he).ext (.of s3), a3, ?_, ?_⟩
          · have := congrArg List.length hes2
            simp only [List.length_append, List.length_map, List.length_cons] at this
            omega
          · have ex := ext_but (s3 _ _ hM2) (fun z => z) (upd_but' (o := SetEO X.prog X.w D (M2 ++ [(xa, kk)])))
            refine ⟨M2 ++ [(xa, kk)], fun b o hb => ?_, (x2.trans (.of s3)).trans ex, upd_same, fun e he => ?_, ?_⟩
            · rw [upd_ne (ne_of_none hb hD)]
              exact s3 _ _ (s2 _ _ hb)
            · rcases List.mem_append.mp he with he | he
              · exact ((aM2 e he).ext (.of s3)).ext ex
              · rw [List.mem_singleton.mp he]
                exact a3.ext ex
            · rw [← hes2]
              simp
        · have e : k = xs.length := by omega
          subst e
          rw [List.drop_length] at hes2
          exact .inl ⟨wk1.stop G2 x2, M2, ys, s2, hM2, aM2, e2, by simpa using hes2⟩
      cases lot with
      | list ds =>
        cases Option.some.inj e1
        obtain ⟨q, o, vs, rfl, b1, b2⟩ := ax.lst_inv
        exact .inl ⟨_, slot, q, rfl, ⟨vs, .inl (.inr ⟨o, b1⟩)⟩, body _ (wk_lst b1 b2)⟩
      | tuple ds =>
        cases Option.some.inj e1
        obtain ⟨q, vs, rfl, b1, b2⟩ := ax.tup_inv
        exact .inr ⟨_, slot, q, rfl, ⟨vs, .inl b1⟩, body _ (wk_tup b1 b2)⟩
      | _ => cases e1
    · have e : i = lots.length := by omega
      subst e
      rw [List.drop_length] at hrest
      cases Option.some.inj hrest
      rw [List.append_nil] at hes
      refine .inl ⟨wk.stop G (.of sm), D, M, rfl, hM, aM, by rw [hes]; exact g1, fun pn ys H' hp eH' ay => .id ⟨pn, ys, rfl, ?_, ?_, by rw [hes] at ay; exact ay, ?_⟩⟩
      · exact q1.alive _ (sm.free hp)
      · rw [eH']
        exact upd_same
      · refine q1.trans (.same q1.rep ?_)
        rw [eH']
        exact sm.trans (same_new hp)
  | _ => cases h2
end
theorem sc_together : FnScope ["lots", "lot", "entry"] ["lots"] (defScope (top 32)) := ⟨rfl, rfl, rfl, by decide +kernel, rfl, by decide +kernel, by decide +kernel⟩
theorem dd_together {P : Program} {w : World} {K : PySem.W.Frag} {mg : Str → Option Value} {base : Heap} {f : Addr} {fd : FuncData} (F : FnP K "together" (top 32) f fd) (hf : mg "together" = some (.ref f)) (bt : Bt mg) : DD P w K mg base "together" 1 [] 1 m_together := by
  refine ⟨⟨f, fd, ["lots"], F.ok sc_together (fun vs H Q E h => h.1) (fun cdv A outer s H vs Q E hr h => ⟨_, body_ok ?_ (by decide) h⟩), hf, F.kp, F.bindsN fun _ _ _ _ _ _ us hl => match us, hl with | [_], _ => rfl⟩, runF_len⟩
  have nd := sc_together.nd
  exact sds_one (sd_ret (ed_tuple bt.tuple (ed_fz (el_tog (ok := blkOk_by (N := ["lots", "lot", "entry"]) (sc := defScope (top 32)) (by decide +kernel)) nd hr bt.sorted (hb1 := fun _ _ _ _ _ => ⟨.inl rfl, .inl rfl, .inl rfl, .inl rfl⟩) (hb2 := fun _ _ _ _ _ => ⟨.inr rfl, .inr rfl⟩)))))
end Dl
end
section
set_option Elab.async false
set_option linter.all false
set_option autoImplicit false
set_option maxRecDepth 100000
set_option maxHeartbeats 4000000
/-! Lam: sorted(xs, key=lambda one: ..). -/
namespace Dl
open PySem PySem.Spec PyProof.Rows L2
open LamX (TabB CodeO Tabs TabS inv_table codeO_ne among_app)
section
variable {X : Cx} {B : Base} {pins : List (Addr × Obj)} {σ : L2.St} {H H' : Hp} {s : Shared} {ρ ρ' : DEnv}
/-- the lambda is made; the table may have grown -/
theorem lam_new {T : List (Addr × Str)} {c Pt : Addr} {params : Arguments} {body : Expr} {sc : Scope} {pos : Pos} {E : Value → Shared → Prop} {Q : Value → Shared → Prop} (I : Inv X pins σ H s) (TB : TabB X.base X.mg c Pt) (code : X.env.code = .ref c)
    (mem : (Pt, X.env.qual ++ "<lambda>") ∈ T) (one : ∀ p ∈ T, p.1 = Pt → p.2 = X.env.qual ++ "<lambda>") (tabs : Tabs T H) (noD : defaultsOf params X.env = ([], [])) (noF : closureFor sc X.env = pure [])
    (k : ∀ (f c' : Addr) (pm ctv : Value) (H1 : Hp) (s' : Shared), Inv X pins σ H1 s' → ExtB T H H1 → s'.heap.get? f = some (PySem.W.kla_obj "<lambda>" (X.env.qual ++ "<lambda>") params body sc [] pm c' ctv) → FpOk X pins H1 f → H1 c' = some (CodeO c' (X.env.qual ++ "<lambda>")) → Q (.ref f) s') :
    wpAny (model X.prog X.w) X.A (eval (.Lambda params body sc pos) X.env) Q E s := by
  obtain ⟨ps, t1, t2, t3⟩ := tabs _ mem
  have hb : s.heap.BuiltinsAt X.mg Pt := TB.bm.keeps I.bk
  have ht : s.heap.get? Pt = some { cls := .none, data := .fields ps } := I.hok Pt _ t1
  refine PySem.W.kla_eval noD ?_
  cases found : codeAmong pos ps.toList with
  | some cv =>
    obtain ⟨c', rfl, hc'⟩ := t3 pos cv found
    refine PySem.W.kla_makeFunctionHit (mg := X.mg) (c := c) (P := Pt) (ps := ps) noF I.ok.glob (I.mod.glob.keeps I.bk) code (TB.code.keeps I.bk) ht t2 found hb fun ctv h2 tk old big => ?_
    have J : Inv X pins σ H { s with heap := h2.push (PySem.W.kla_obj "<lambda>" (X.env.qual ++ "<lambda>") params body sc [] ((X.mg "__name__").getD .none) c' ctv), toks := tk } := I.kept fun b o e => Heap.get?_push_of_some _ (old b o e)
    exact k h2.objs.size c' _ ctv H _ J ⟨fun b o e _ => e, fun _ e => e, tabs⟩ (Heap.get?_push_size _ rfl) (I.fpOk big (I.hok.fresh big)) hc'
  | none =>
    refine PySem.W.kla_makeFunction (mg := X.mg) (c := c) (P := Pt) (ps := ps) noF I.ok.glob (I.mod.glob.keeps I.bk) code (TB.code.keeps I.bk) ht t2 found TB.gP hb fun c' ctv h2 tk old big lt rec_ tab2 => ?_
    obtain ⟨c2, oc, vs, tq, ec, r1, r2, r3⟩ := rec_
    cases ec
    have sz : s.heap.objs.size ≤ h2.objs.size := by omega
    have nc : H c' = none := I.hok.fresh big
    have J := inv_table (t' := tk) (more := #[rawInt pos.line, rawInt pos.col, .ref c']) (h' := h2.push (PySem.W.kla_obj "<lambda>" (X.env.qual ++ "<lambda>") params body sc [] ((X.mg "__name__").getD .none) c' ctv)) I t1
      (fun b o ne e => Heap.get?_push_of_some _ (old b o ne e)) (Heap.get?_push_of_some _ tab2) big ⟨oc, vs, tq, Heap.get?_push_of_some _ r1, r2, r3⟩
    generalize hG : upd (upd H Pt (.tbl (ps ++ #[rawInt pos.line, rawInt pos.col, .ref c']))) c' (CodeO c' (X.env.qual ++ "<lambda>")) = G at J
    have ptc : Pt ≠ c' := ne_of_none t1 nc
    have keep : ∀ b o, H b = some o → (∀ q, o ≠ .tbl q) → G b = some o := fun b o e n => by
      rw [← hG, upd_ne (ne_of_none e nc), upd_ne fun z => n ps (by rw [z, t1] at e; exact (Option.some.inj e).symm)]
      exact e
    have eqL : (ps ++ #[rawInt pos.line, rawInt pos.col, .ref c']).toList = ps.toList ++ [rawInt pos.line, rawInt pos.col, .ref c'] := by simp
    have gPt : G Pt = some (.tbl (ps ++ #[rawInt pos.line, rawInt pos.col, .ref c'])) := by rw [← hG, upd_ne ptc, upd_same]
    have gc : G c' = some (CodeO c' (X.env.qual ++ "<lambda>")) := by rw [← hG, upd_same]
    have tabs2 : Tabs T G := fun p hp => by
      by_cases e : p.1 = Pt
      · rw [one p hp e, e]
        refine ⟨_, gPt, by rw [eqL]; exact PySem.TriplesOk_snoc _ _ _ _ t2, fun p2 cv h => ?_⟩
        rw [eqL] at h
        rcases among_app _ t2 h with z | z
        · obtain ⟨c0, y1, y2⟩ := t3 p2 cv z
          exact ⟨c0, y1, keep _ _ y2 codeO_ne⟩
        · exact ⟨c', z, gc⟩
      · obtain ⟨qs, a1, a2, a3⟩ := tabs p hp
        refine ⟨qs, ?_, a2, fun p2 cv h => ?_⟩
        · rw [← hG, upd_ne (ne_of_none a1 nc), upd_ne e]
          exact a1
        · obtain ⟨c0, y1, y2⟩ := a3 p2 cv h
          exact ⟨c0, y1, keep _ _ y2 codeO_ne⟩
    refine k h2.objs.size c' _ ctv G _ J ⟨fun b o e n => keep b o e ?_, fun b e => ?_, tabs2⟩ (Heap.get?_push_size _ rfl) (I.fpOk sz ?_) gc
    · rcases n with n | n
      · rw [n] at mem
        cases mem
      · exact n
    · by_cases z : b = Pt
      · rw [z, gPt] at e
        cases e
      · cases y : H b with
        | none => rfl
        | some o =>
          rw [← hG, upd_ne (ne_of_none y nc), upd_ne z, y] at e
          cases e
    · rw [← hG, upd_ne (Nat.ne_of_gt lt), upd_ne (Nat.ne_of_gt (Nat.lt_of_lt_of_le (Heap.lt_size ht) sz))]
      exact I.hok.fresh sz
/-- what its calls give -/
theorem lam_turn {f c' : Addr} {q a : Str} {params : Arguments} {body : Expr} {sc : Scope} {pm ctv : Value} {k : Nat} {fm : M PyData} (S : FnScope [a] [a] sc) (bind : ∀ u : Value, bindArgs (PySem.W.kla_fn "<lambda>" q params body sc [] pm (.ref c') ctv) ⟨[u], []⟩ = pure [(a, u)])
    (pin : (f, PySem.W.kla_obj "<lambda>" q params body sc [] pm c' ctv) ∈ pins) (hc : H c' = some (CodeO c' q)) (hr : Room (k + 1) X.A.in1.in1)
    (der : ∀ (A : Around) (outer : List Env) (s : Shared) (H : Hp), Room k (A.deeper (envOfC q sc s.heap.objs.size f (.ref c'))) → ED ⟨H, none, []⟩ (cxOf CX0 X.prog X.w X.K X.mg X.base [a] q sc f (.ref c') A outer s H E0) body fm) :
    KTurn X pins σ X.A.in1.in1 (.ref f) H (runE 1 1 fm) := by
  intro pl s1 H1 v u d kd I sm r av hm
  have of1 : s1.heap.get? f = some (PySem.W.kla_obj "<lambda>" q params body sc [] pm c' ctv) := (I.pin _ (List.mem_append_right _ (List.mem_append_left _ pin))).1
  obtain ⟨⟨oc, vs, t, g1, g2, g3⟩, _, _⟩ := I.hok c' _ (sm _ _ hc)
  have e0 : Env0 X.prog X.w X.K X.mg X.base X.A.in1.in1 X.stack s1 H1 := I.env0.in1.in1
  have lim : s1.heap.NoLimit := e0.mod.nolimit.keeps fun b o e => (e0.bs b o e).1
  have rv : Vals [v] [u] := .cons r .nil
  refine wpAny_call (codeAny_mono (show codeAny _ _ _ (CR CX0 X.stack X.prog X.w H1 s1 (fun y H' => Same H1 H' ∧ At X.prog X.w H' y kd) E0) s1 from ?_) fun rr s2 hq => ?_)
  · refine PySem.W.kla_callFunE hr.depth of1 rfl S.co S.gen rfl ⟨c', oc, vs, t, rfl, g1, g2, g3⟩ ?_
    rw [bind]
    refine wpAny_pure (wpAny_newFunctionEnv_cells (binds := [a].zip [u]) S.kind (fun y hy => ?_) fun env he s2 x => ?_)
    · rcases S.par y.1 (List.of_mem_zip hy).1 with z | z
      · exact .inl z
      · exact .inr ⟨z, PySem.W.cellsFrom_some _ _ _ (.inl z)⟩
    subst he
    refine ⟨lim.keeps x.toInCall.keep, ?_⟩
    have J : Inv (cxOf CX0 X.prog X.w X.K X.mg X.base [a] q sc f (.ref c') X.A.in1.in1 X.stack s1 H1 E0) [] (L2.start [a] [v]) H1 s2 := inv_start S hr.hd e0 rfl rv x
    unfold runE at hm
    obtain ⟨⟨d2, ρ2⟩, m1, m2⟩ := bind2 hm
    cases Option.some.inj m2
    have rep : Rep X.prog X.w ⟨H1, none, []⟩ H1 (L2.start [a] [v]) (startE 1 [.dat d] none) := start_rep (N := [a]) (ds := [d]) (fun _ h => nomatch h) (.cons av .nil) (Nat.le_refl _)
    refine PySem.W.kla_codeExpr (wpAny_mono ((der X.A.in1.in1 X.stack s1 H1 (hr.deeper _)).run [] s2 (L2.start [a] [v]) H1 _ d2 ρ2 J rep m1) (fun y s3 hy => ?_) fun e s3 he => he)
    obtain ⟨w, H3, J3, rw3, p3, a3⟩ := hy
    exact ⟨w, H3, J3.os, J3.bare, J3.base, J3.hok, rw3, (bare_of rfl).same p3.fr, a3⟩
  · cases rr with
    | error e => exact hq.elim
    | ok fl =>
      cases fl with
      | ret u => exact I.after hq
      | next => exact False.elim hq
      | brk => exact False.elim hq
      | cont => exact False.elim hq

theorem ExtB.ext {T : List (Addr × Str)} (e : ExtB T H H') : Ext H H' := fun b o h i => e.1 b o h (.inr fun ps z => by
  rw [z] at i
  exact i)
theorem el_sortL {c Pt : Addr} {a : Str} {e : Expr} {params : Arguments} {body : Expr} {sc : Scope} {p lp kp pos : Pos} {j k : Nat} {fa fm : M PyData} (hr : Room j X.A) (hm : X.mg "sorted" = none) (ha : ED B X e fa) (TB : TabB X.base X.mg c Pt) (code : X.env.code = .ref c) (mem : (Pt, X.env.qual ++ "<lambda>") ∈ B.T) (one : ∀ p ∈ B.T, p.1 = Pt → p.2 = X.env.qual ++ "<lambda>")
    (S : FnScope [a] [a] sc) (bind : ∀ (pm ctv u : Value) (c' : Addr), bindArgs (PySem.W.kla_fn "<lambda>" (X.env.qual ++ "<lambda>") params body sc [] pm (.ref c') ctv) ⟨[u], []⟩ = pure [(a, u)])
    (der : ∀ (f c' : Addr) (A : Around) (outer : List Env) (s : Shared) (H : Hp), Room k (A.deeper (envOfC (X.env.qual ++ "<lambda>") sc s.heap.objs.size f (.ref c'))) → ED ⟨H, none, []⟩ (cxOf CX0 X.prog X.w X.K X.mg X.base [a] (X.env.qual ++ "<lambda>") sc f (.ref c') A outer s H E0) body fm)
    (hk : k + 1 + 2 ≤ j := by decide) (noD : defaultsOf params X.env = ([], []) := by rfl) (noF : closureFor sc X.env = pure [] := by rfl) (hg : Gl X "sorted" := by rfl) (hs : starEach [e] X.env = [(false, eval e X.env)] := by rfl)
    (hall : (backToKw pos (keywordEach [⟨some "key", .Lambda params body sc lp, kp⟩] X.env)).all (·.1.isSome) = true := by rfl) (hnone : (backToKw pos (keywordEach [⟨some "key", .Lambda params body sc lp, kp⟩] X.env)).any (·.1.isNone) = false := by rfl)
    (hks : (backToKw pos (keywordEach [⟨some "key", .Lambda params body sc lp, kp⟩] X.env)).filterMap (·.1) = [Str.ofString "key"] := by rfl) : EL B X (.Call (.Name "sorted" p) [e] [⟨some "key", .Lambda params body sc lp, kp⟩] pos) (lSort (runE 1 1 fm) fa) := by
  refine ⟨fun pins s σ H ρ out ρ' I r hf => ?_⟩
  obtain ⟨⟨x, ρ1⟩, h1, h2⟩ := bind2 hf
  cases x with
  | list ds =>
    obtain ⟨ks, h3, h4⟩ := bind2 h2
    obtain ⟨h5, h6⟩ := if_inv h4
    obtain ⟨rfl, rfl⟩ := pair2 h6
    rw [Bool.and_eq_true] at h5
    refine wpAny_Call_Name_kw (ld_blt (u := .builtin "sorted") I hg hm (by decide +kernel) ?_ (by decide) (by decide))
    refine PyProof.Rows.callWith_kw (thn ((pa_cons ha.pe pa_nil (by rw [hs]; rfl)).run pos pins s σ H (fun vs H1 => ∃ v, vs = [v] ∧ Post X.prog X.w B σ ρ ρ1 H H1 ∧ At X.prog X.w H1 v (.list ds)) I ⟨ρ, _, ρ1, r, h1, fun v H1 p1 a1 => ⟨v, rfl, p1, a1⟩⟩) fun us s1 ⟨vs, H1, I1, rv, v, ev, p1, a1⟩ => ?_) (by rw [hs]; rfl) (by rw [hs]; rfl) hall hnone
    subst ev
    obtain ⟨u, rfl, ru⟩ := vals1 rv
    obtain ⟨q, o, xs, rfl, g1, g2⟩ := a1.lst_inv
    obtain rfl : u = Value.ref q := ru
    show wpAny _ _ (evalAll ((do let v ← eval (.Lambda params body sc lp) X.env; standAt pos; pure v) :: [])) _ _ s1
    refine wpAny_evalAll_cons (wpAny_bind (lam_new I1 TB code mem one p1.rep.hp.tabs noD noF fun f c' pm ctv H2 s2 I2 ext obj fp hc => wpAny_bind (wpAny_standAt (wpAny_pure (wpAny_evalAll_nil ?_)))))
    rw [hks]
    have I3 : Inv X (pins ++ [(f, PySem.W.kla_obj "<lambda>" (X.env.qual ++ "<lambda>") params body sc [] pm c' ctv)]) σ H2 s2 := I2.pins_of fun p hp => (List.mem_append.mp hp).elim (fun z => I2.pin p (List.mem_append_right _ z)) fun z => by
      rw [List.mem_singleton.mp z]
      exact ⟨obj, fp.1, fp.2.1, fp.2.2.1, fun v z => nomatch z⟩
    have p2 : Post X.prog X.w B σ ρ1 ρ1 H1 H2 := .extB p1.rep ext (.inr rfl)
    have turn := lam_turn (X := X) (pins := pins ++ [(f, PySem.W.kla_obj "<lambda>" (X.env.qual ++ "<lambda>") params body sc [] pm c' ctv)]) (σ := σ) (H := H2) S (fun u => bind pm ctv u c') (List.mem_append_right _ (.head _)) hc ((hr.mono hk).in1.in1) (der f c')
    refine thn (sorted_keyI (o := o) (Q := fun v H' => ∃ D ys, v = .ref D ∧ Same H2 H' ∧ H2 D = none ∧ H' D = some (.lst ys) ∧ AtAll X.prog X.w H' ys (((ds.zip ks).mergeSort (PySem.W.dataLe false fun q => q.2)).map (·.1))) I3 (.inl (.inr ⟨o, ext.ext _ _ g1 True.intro⟩)) (g2.ext ext.ext) h3 h5.2 hr.units turn fun D ys H3 sm hn hd ay => ⟨D, ys, rfl, sm, hn, hd, ay⟩) fun y s3 ⟨v, H3, I4, rv4, D, ys, ev, sm, hn, hd, ay⟩ => ?_
    subst ev
    exact ⟨.ref D, H3, I4.unpinned, rv4, D, ys, rfl, p1.alive _ (p2.alive _ hn), hd, ay, (p1.trans p2).trans (.same p2.rep sm)⟩
  | _ => cases h2
end
end Dl
end
section
set_option Elab.async false
set_option linter.all false
set_option autoImplicit false
set_option maxRecDepth 100000
set_option maxHeartbeats 4000000
/-! SetDc: name = {.. : .. for ..}, the name a local. -/
namespace Dl
open PySem PySem.Spec PyProof.Rows L2
section
variable {X : Cx} {B : Base} {tg : Expr} {fa fb : M PyData} {af : Asg} {ix : List Nat}
theorem sw_dict {kx vx : Expr} {gs : List Comprehension} {sc : Scope} {p py : Pos} {y : Str} {l : Nat} {env : Env} (a1 : env.scope.kind = .function) (a2 : env.scope.names.lookup y = some .local) (a3 : (py.line == p.line) = true)
    (a4 : (sc.names.any fun (n, k) => n == y && (k == .local || k == .cell)) = false) : swapsWith (.DictComp kx vx gs sc p) (some (.Name y py)) l env = pure true := by
  have b1 : env.kindOf y = some .local := a2
  have b2 : env.blockKind = .function := by unfold Env.blockKind; rw [a1]; rfl
  unfold swapsWith
  simp only [b2, b1, a4, Expr.pos, a3]
  rfl
theorem sd_setDc (i : Nat) {y : Str} {py spos pos : Pos} {kx vx iter : Expr} {sc : Scope} {own : List (Str × Nat)} {it : M (List PyData)} (nd : X.N.Nodup) (hi : ID B X tg iter it) (hg : ∀ (s : Shared) (H : Hp) (C : Addr) (cl : List (Str × Addr)) (fp : List Addr), GD (Blk X sc s H C cl fp) tg ix af)
    (hk : ∀ (s : Shared) (H : Hp) (C : Addr) (cl : List (Str × Addr)) (fp : List Addr), ED B (Blk X sc s H C cl fp) kx fb) (he : ∀ (s : Shared) (H : Hp) (C : Addr) (cl : List (Str × Addr)) (fp : List Addr), ED B (Blk X sc s H C cl fp) vx fa)
    (hy : X.N[i]? = some y := by rfl) (hyl : X.env.scope.names.lookup y = some .local := by rfl) (hsw : swapsWith (.DictComp kx vx [⟨tg, iter, [], 0⟩] sc pos) (some (.Name y py)) spos.line X.env = pure true := by exact sw_dict rfl rfl rfl (by decide +kernel))
    (ok : BlkOk X.N X.env.scope sc own := by exact blkOk_by (by decide +kernel)) (hc : X.calm = true := by rfl) (hix : ∀ i ∈ ix, i ∈ own.map (·.2) := by decide) (hs : ∀ x, foldedSetIterable iter X.env x = pure x := by intro _; rfl) :
    SD B X (.Assign [.Name y py] (.DictComp kx vx [⟨tg, iter, [], 0⟩] sc pos) spos) (sSetV i (vD (dComp it ix af (own.map (·.2)) fb fa))) := by
  refine ⟨fun pins s σ H ρ fl ρ' I r hf => ?_⟩
  obtain ⟨⟨d, ρ1⟩, h1, h2⟩ := bind2 hf
  obtain ⟨rfl, rfl⟩ := pair2 h2
  obtain ⟨⟨x, ρ2⟩, h3, h4⟩ := bind2 h1
  obtain ⟨rfl, rfl⟩ := pair2 h4
  rw [exec_Assign_Name_used _ _ _ _ hsw]
  refine wpAny_bind (wpAny_standAt (wpAny_bind ?_))
  show wpAny _ X.A (do let _ ← comprehension (.DictComp kx vx [⟨tg, iter, [], 0⟩] sc pos) sc X.env (firstIterPos [⟨tg, iter, [], 0⟩] pos) newDict false (eval iter X.env) (some (assign (.Name y py) X.env))) _ _ s
  refine wpAny_bind (thn (dc_core (Qf := fun _ s' => SP X pins (dEnds X.prog X.w B σ ρ H (ρ2.put i (.dat x)) .next) .next s') (g := fun v σ H Q => ∃ d ds, At X.prog X.w H v d ∧ af d = some ds ∧ ∀ vs, AtAll X.prog X.w H vs ds → Q (putV ix vs σ) H) (tk := tED B X fb) (tv := tED B X fa) (Q := fun v H2 => ∃ D ks kvs, v = .ref D ∧ H D = none ∧ H2 D = some (.dK ks) ∧ x = kvD kvs ∧ AtKs X.prog X.w H2 ks (kvs.map fun q => (PyData.str q.1, q.2)) ∧ Post X.prog X.w B σ ρ ρ2 H H2) hc nd I hi.pi ok (fun s H C cl fp => (hg s H C cl fp).pg) (fun _ _ _ _ _ => pts_nil) (fun s H C cl fp => (hk s H C cl fp).pe) (fun s H C cl fp => (he s H C cl fp).pe) hs
    (dc_read hix r h3 fun D ks kvs H2 hn hd ex a p => ⟨D, ks, kvs, rfl, hn, hd, ex, a, p⟩) fun D C s2 m H2 I2 q hn f => ?_) fun _ s' hq => wpAny_pure (wpAny_pure hq))
  obtain ⟨D', ks, kvs, e, n0, hd, rfl, ak, p⟩ := q
  cases e
  obtain ⟨od, I3⟩ := I2.lock hd True.intro
  have ex := ext_but hd (fun z => z) (upd_but' (o := .frz od (.dK ks)))
  show wpAny _ _ (assign (.Name y py) X.env (.ref D)) _ _ _
  refine wpAny_assign_Name (store_ok2 (v := V.ref D) I3 nd hy (.inl hyl) rfl (fun s3 I4 ⟨b, sb, hb⟩ => ?_) (.inr hyl))
  obtain ⟨f0, f1, f2, f3, f4, f5⟩ := f
  have ne : C ≠ b := by
    rcases hb with z | z
    · rw [z]
      exact f1
    · exact fun e => f4 y b z e.symm
  have f0' : upd H2 D (.frz od (.dK ks)) C = none := by
    rw [upd_ne fun z => by rw [z, hd] at f0; cases f0]
    exact f0
  refine ⟨m, hn.sameBut sb ne, fun h3 sb3 => ⟨_, _, I4.turned (t' := s3.toks) (fun b o hb e => (sb3.2 b hb).trans e) f0' f1 f3 f4 f5, ?_⟩⟩
  exact (p.poke r n0 hd (fun z => z) (fun _ z => nomatch z) (.inr fun _ z => nomatch z) upd_but' ⟨_, upd_same⟩).store r ⟨⟨.ref D, rfl, .dK upd_same (ak.ext ex)⟩, fun z => nomatch z⟩
end
end Dl
end
section
set_option Elab.async false
set_option linter.all false
set_option autoImplicit false
set_option maxRecDepth 100000
set_option maxHeartbeats 4000000
/-! Rwl: rows_with_lots, meaning, whole. -/
namespace Dl
open PySem PySem.Spec PyProof.Rows L2
open LamX (TabB)
def lamQ : Str := (("rows_with_lots" : Str) ++ ".<locals>.") ++ "<lambda>"
theorem sc_rows_with_lots : FnScope ["query", "told", "marks", "before", "name", "step"] ["query", "told"] (defScope (top 41)) := ⟨rfl, rfl, rfl, by decide +kernel, rfl, by decide +kernel, by decide +kernel⟩
theorem dd_rows_with_lots {P : Program} {w : World} {K : PySem.W.Frag} {mg : Str → Option Value} {base : Heap} {f c Pt : Addr} {fd : FuncData} (F : FnP K "rows_with_lots" (top 41) f fd) (hf : mg "rows_with_lots" = some (.ref f)) (bt : Bt mg) (hcode : fd.code = .ref c) (TB : TabB base mg c Pt) (d_place_of : DD P w K mg base "place_of" 3 [] 1 m_place_of) (d_marks_of : DD P w K mg base "marks_of" 3 [] 2 m_marks_of) (d_of_step : DD P w K mg base "of_step" 5 [] 5 m_of_step) (d_out_of : DD P w K mg base "out_of" 1 [] 1 m_out_of) :
    DD P w K mg base "rows_with_lots" 8 [(Pt, lamQ)] 2 m_rows_with_lots := by
  have kp := F.kp
  have bn := F.bindsN (ps := ["query", "told"]) fun _ _ _ _ _ _ us hl => match us, hl with | [_, _], _ => rfl
  obtain ⟨oc, od, dV, kV, doc, pm, an, cdv, ct, osl, rfl, lk, hcd, _, _⟩ := F.ex
  obtain rfl : cdv = Value.ref c := hcode
  refine ⟨⟨f, _, ["query", "told"], fn_of lk hcd sc_rows_with_lots (fun vs H Q E h => h.1) (fun A outer s H vs Q E hr h => ⟨_, body_ok (T := [(Pt, lamQ)]) ?_ (by decide) h⟩), hf, kp, bn⟩, runF_len⟩
  have nd := sc_rows_with_lots.nd
  exact (sds_cons (sd_par 2 3 nd (vd_D (ed_call hr d_marks_of (ad_cons (ed_var 0) (ad_cons (ed_var 1) ad_nil)))) vd_K)
      (sds_cons (sd_for (id_dat (ed_slT (ed_var 0) sp_none sp_neg)) (gd_tup (gds_cons (gd_name 4 nd) (gds_cons (gd_name 5 nd) gds_nil))) (sds_one (sd_putK hr 3 (ed_var 4) (ed_lend 3 (ed_call hr d_of_step (ad_cons (ed_var 0) (ad_cons (ed_var 4) (ad_cons (ed_var 1) (ad_cons (ed_ix hr (ed_var 2) (ed_var 4)) (ad_cons (ed_var 3) ad_nil))))))))))
      (sds_one (sd_ret (ed_fz (el_sortL (k := 3) (a := "one") hr bt.sorted (ed_ix hr (ed_var 3) (ed_call hr d_out_of (ad_cons (ed_var 0) ad_nil))) TB rfl (.head _) (fun p hp _ => by rw [List.mem_singleton.mp hp]; rfl) ⟨rfl, rfl, rfl, by decide +kernel, rfl, by decide +kernel, by decide +kernel⟩ (fun _ _ _ _ => rfl)
        (fun f c' A outer s H hr => ed_tup (ad_cons (ed_call hr d_place_of (ad_cons (ed_ix hr (ed_var 0) ed_int) ad_nil)) (ad_cons (ed_ix hr (ed_var 0) ed_int) ad_nil)))))))))
theorem sc_meaning : FnScope ["query", "told", "row", "lot"] ["query", "told"] (defScope (top 42)) := ⟨rfl, rfl, rfl, by decide +kernel, rfl, by decide +kernel, by decide +kernel⟩
theorem dd_meaning {P : Program} {w : World} {K : PySem.W.Frag} {mg : Str → Option Value} {base : Heap} {f : Addr} {fd : FuncData} {T : List (Addr × Str)} (F : FnP K "meaning" (top 42) f fd) (hf : mg "meaning" = some (.ref f)) (bt : Bt mg) (d_bag_of : DD P w K mg base "bag_of" 1 [] 1 m_bag_of) (d_rows_with_lots : DD P w K mg base "rows_with_lots" 8 T 2 m_rows_with_lots) : DD P w K mg base "meaning" 9 T 2 m_meaning := by
  refine ⟨⟨f, fd, ["query", "told"], F.ok sc_meaning (fun vs H Q E h => h.1) (fun cdv A outer s H vs Q E hr h => ⟨_, body_ok (T := T) ?_ (by decide) h⟩), hf, F.kp, F.bindsN fun _ _ _ _ _ _ us hl => match us, hl with | [_, _], _ => rfl⟩, runF_len⟩
  have nd := sc_meaning.nd
  exact (sds_one (sd_ret (ed_call hr d_bag_of (ad_cons (ed_fz (el_comp (own := [("row", 2), ("lot", 3)]) (ok := blkOk_by (N := ["query", "told", "row", "lot"]) (sc := defScope (top 42)) (by decide +kernel)) nd (id_dat (ed_call hr d_rows_with_lots (ad_cons (ed_var 0) (ad_cons (ed_var 1) ad_nil)) (hT := .inr rfl))) (fun _ _ _ _ _ => (gd_tup (gds_cons (gd_name 2 nd) (gds_cons (gd_name 3 nd) gds_nil)))) (fun _ _ _ _ _ => tds_nil) (fun _ _ _ _ _ => (ed_var 2)))) ad_nil))))
theorem sc_whole : FnScope ["query", "told", "ended", "name", "parts", "part"] ["query", "told"] (defScope (top 43)) := ⟨rfl, rfl, rfl, by decide +kernel, rfl, by decide +kernel, by decide +kernel⟩
theorem dd_whole {P : Program} {w : World} {K : PySem.W.Frag} {mg : Str → Option Value} {base : Heap} {f : Addr} {fd : FuncData} {T : List (Addr × Str)} (F : FnP K "whole" (top 43) f fd) (hf : mg "whole" = some (.ref f)) (bt : Bt mg) (d_meaning : DD P w K mg base "meaning" 9 T 2 m_meaning) : DD P w K mg base "whole" 10 T 2 m_whole := by
  refine ⟨⟨f, fd, ["query", "told"], F.ok sc_whole (fun vs H Q E h => h.1) (fun cdv A outer s H vs Q E hr h => ⟨_, body_ok (T := T) ?_ (by decide) h⟩), hf, F.kp, F.bindsN fun _ _ _ _ _ _ us hl => match us, hl with | [_, _], _ => rfl⟩, runF_len⟩
  have nd := sc_whole.nd
  exact (sds_cons (sd_setDc 2 (own := [("name", 3), ("parts", 4)]) (ok := blkOk_by (N := ["query", "told", "ended", "name", "parts", "part"]) (sc := defScope (top 43)) (by decide +kernel)) nd (id_items (ed_var 1)) (fun _ _ _ _ _ => (gd_tup (gds_cons (gd_name 3 nd) (gds_cons (gd_name 4 nd) gds_nil)))) (fun _ _ _ _ _ => (ed_var 3)) (fun _ _ _ _ _ => (ed_tuple bt.tuple (ed_fz (el_comp (own := [("part", 5)]) (ok := blkOk_by (by rfl)) nd (id_dat (ed_var 4)) (fun _ _ _ _ _ => (gd_name 5 nd)) (fun _ _ _ _ _ => tds_nil) (fun _ _ _ _ _ => (ed_tup (ad_star (ed_var 5) (ad_cons (ed_tup (ad_cons ed_str (ad_cons (ed_glob rfl bt.END) ad_nil))) ad_nil)))))))))
      (sds_one (sd_ret (ed_call hr d_meaning (ad_cons (ed_var 0) (ad_cons (ed_var 2) ad_nil)) (hT := .inr rfl)))))
end Dl
end
section
set_option Elab.async false
set_option linter.all false
set_option autoImplicit false
set_option maxRecDepth 100000
set_option maxHeartbeats 4000000
/-! Bags: lists of the same bags. -/
namespace Dl
open PySem PySem.Spec PyProof.Rows L2
open SeqAt AutoSeq1 MeetsSeq MeetsSeq2 MeetsSeq3 SeqRoads2
section
variable {prog : Program} {w : World} {A : Around} {E : Value → Shared → Prop} {s : Shared}
/-- two dicts with keys on the heap: each thing of the first stands in the second -/
theorem same_heap {K : Type} [DecidableEq K] {knd : HeapKind prog w K} {nm : String} {a b : Addr} {xs ys : List (K × Addr × Value)} {Q : Bool → Shared → Prop} (na : (a == sysModules) = false) (nb : (b == sysModules) = false) (da : s.heap.DictOfH knd a xs) (db : s.heap.DictOfH knd b ys)
    (len : xs.length = ys.length) (hu : knd.room A) (hits : ∀ x ∈ xs, ∃ p, atKey ys x.1 = some p ∧ EqP prog w A s x.2.2 p.2 true) (h : Q true s) : wpAny (model prog w) A (Builtin.Dict.samePairs nm a b) Q E s := by
  obtain ⟨o1, e1, ep1, g1, _, d1, l1, k1, n1⟩ := da
  obtain ⟨o2, e2, ep2, g2, _, d2, l2, k2, n2⟩ := db
  have z1 : e1.size = xs.length := size_of_entries l1
  have z2 : e2.size = ys.length := size_of_entries l2
  unfold Builtin.Dict.samePairs Builtin.Dict.showsAll
  rw [if_neg (by rw [na]; exact Bool.false_ne_true), if_neg (by rw [nb]; exact Bool.false_ne_true)]
  refine wpAny_bind (wpAny_pure (wpAny_bind (wpAny_pure (wpAny_bind (wpAny_dictEntries g1 d1 ?_)))))
  dsimp only
  refine wpAny_bind (wpAny_dictEntries g2 d2 ?_)
  rw [if_neg (by rw [z1, z2, len]; simp)]
  refine wpAny_bind (wpAny_dictEpoch g1 d1 (wpAny_bind ?_))
  rw [Std.Legacy.Range.forIn_eq_forIn_range']
  simp only [Std.Legacy.Range.size, Nat.sub_zero, Nat.add_sub_cancel, Nat.div_one]
  refine wpAny_forIn_list _ (fun left r s2 => s2 = s ∧ r = (none, ()) ∧ ∃ i, left = List.range' i (xs.length - i) ∧ i ≤ xs.length) _ ?_ ?_ _ _ ⟨rfl, rfl, 0, by rw [z1]; simp, Nat.zero_le _⟩
  · rintro j left r s2 ⟨rfl, rfl, i, hl, hi⟩
    have lt : i < xs.length := by
      rcases Nat.lt_or_ge i xs.length with y | y
      · exact y
      · rw [Nat.sub_eq_zero_of_le y] at hl
        cases hl
    obtain ⟨rfl, hl2⟩ : j = i ∧ left = List.range' (i + 1) (xs.length - (i + 1)) := by
      rw [show xs.length - i = (xs.length - (i + 1)) + 1 by omega, List.range'_succ] at hl
      injection hl with y1 y2
      exact ⟨y1, y2⟩
    obtain ⟨x, hx⟩ : ∃ x, xs[j]? = some x := ⟨_, List.getElem?_eq_getElem lt⟩
    have mx : x ∈ xs := List.mem_of_getElem? hx
    obtain ⟨p, hp, eq⟩ := hits x mx
    refine wpAny_bind (wpAny_dictEntries g1 d1 ?_)
    rw [entry_at l1 j, hx]
    dsimp only [Option.map]
    refine wpAny_bind (wpAny_holding (wpAny_bind (wpAny_dictFind_heap (k := x.1) hu (k1 x mx) g2 d2 l2 k2 n2 (fun no => ?_) fun m q hm => ?_)))
    · rw [atKey_none_of_get no] at hp
      cases hp
    · rw [atKey_of_get n2 hm] at hp
      cases hp
      dsimp only
      refine wpAny_bind (wpAny_dictEntries g2 d2 ?_)
      rw [entry_at l2 m, hm]
      dsimp only [Option.map]
      refine wpAny_holding (eq _ _ ?_)
      simp only [Bool.not_true, Bool.false_eq_true, if_false]
      refine wpAny_bind (wpAny_dictEpoch g1 d1 ?_)
      rw [if_neg (by simp)]
      exact wpAny_pure ⟨rfl, rfl, j + 1, hl2, lt⟩
  · rintro r s2 ⟨rfl, rfl, i, hl, hi⟩
    exact wpAny_pure h
theorem rc_heap {K : Type} [DecidableEq K] {knd : HeapKind prog w K} {a b : Addr} {xs ys : List (K × Addr × Value)} (na : (a == sysModules) = false) (nb : (b == sysModules) = false) (da : s.heap.DictOfH knd a xs) (db : s.heap.DictOfH knd b ys)
    (len : xs.length = ys.length) (room : A.units < cLine) (hu : knd.room A.in1) (hits : ∀ x ∈ xs, ∃ p, atKey ys x.1 = some p ∧ EqP prog w A.in1 s x.2.2 p.2 true) (E Q : Value → Shared → Prop) (h : Q (.bool true) s) : wpAny (model prog w) A (richCompare .Eq (.ref a) (.ref b)) Q E s := by
  refine wpAny_richCompare_same_room (op := .Eq) da.typeIs db.typeIs PySem.F.slot_dict_eq (wpAny_call_entry PySem.F.slot_dict_eq da.typeIs PySem.F.entry_dict_eq ?_ (PySem.F.args_dict_eq_2 _ _)) room
  show wpAny _ _ (Builtin.Dict.dictSlotArgs "__eq__" ⟨[.ref a, .ref b], []⟩ >>= _) _ _ s
  refine wpAny_bind ?_
  unfold Builtin.Dict.dictSlotArgs
  refine wpAny_bind (wpAny_notOrdered_dict da.typeIs (wpAny_pure ?_))
  refine wpAny_bind (wpAny_isInstance (T := "dict") db.typeIs PySem.F.sub_dict_dict ?_)
  simp only [Bool.not_true, Bool.false_eq_true, if_false]
  refine wpAny_bind (wpAny_pure (wpAny_bind (wpAny_pure (wpAny_bind (same_heap na nb da db len hu hits (wpAny_pure ⟨_, rfl, (fun x => nomatch x), h⟩))))))
theorem eqP_any {l b : Addr} (h : ∀ (E Q : Value → Shared → Prop), Q (.bool true) s → wpAny (model prog w) A (richCompare .Eq (.ref l) (.ref b)) Q E s) : EqP prog w A s (.ref l) (.ref b) true := fun E Q hq => by
  by_cases e : l = b
  · subst e
    unfold eqBool
    refine wpAny_holding ?_
    show wpAny _ _ (if (Value.ref l == Value.ref l) = true then _ else _) Q E s
    rw [if_pos (beq_self_eq_true _)]
    first
      | exact hq
      | exact wpAny_pure (M := model prog w) (E := E) hq
  · exact eqP_refs e h E Q hq
/-- != of lists whose items are equal, place by place -/
theorem ne_loop_eq (l b : Addr) (us ws : Array Value) (n m : Nat) (d1 d2 : Option Addr) (t1 t2 : Array (Option Value)) (len : us.size = ws.size) (k : Nat) : ∀ i : Nat, us.size - i = k → MeetsIn prog w (Builtin.«list.__eq__.loop» ⟨[.ref l, .ref b, rawInt i, rawInt 3], []⟩)
    (fun A R s => s.heap.get? l = some { cls := .type "list", dict := d1, data := .seq us n, slots := t1 } ∧ s.heap.get? b = some { cls := .type "list", dict := d2, data := .seq ws m, slots := t2 } ∧ (∀ j (h1 : j < us.size) (h2 : j < ws.size), EqP prog w A.in1 s us[j] ws[j] true) ∧ R (.ok (.ret (.bool false))) s) := by
  induction k with
  | zero =>
    intro i hk A R s h
    obtain ⟨hp, g, d, tk, os⟩ := s
    obtain ⟨hl, hb, he, h⟩ := h
    wp_walk using wpAny_loadPart' hl, wpAny_loadPart' hb
    have a1 : us[((i : Nat) : Int).toNat]? = none := by simp; omega
    have a2 : ws[((i : Nat) : Int).toNat]? = none := by simp; omega
    rw [a1, a2]
    wp_walk using wpAny_loadPart' hl, wpAny_loadPart' hb
    show R (.ok (.ret (.bool (us.size != ws.size)))) _
    rw [len]
    simpa using h
  | succ k ih =>
    intro i hk A R s h
    obtain ⟨hp, g, d, tk, os⟩ := s
    obtain ⟨hl, hb, he, h⟩ := h
    wp_walk using wpAny_loadPart' hl, wpAny_loadPart' hb
    have b1 : i < us.size := by omega
    have b2 : i < ws.size := by omega
    have a1 : us[((i : Nat) : Int).toNat]? = some us[i] := by simp [b1]
    have a2 : ws[((i : Nat) : Int).toNat]? = some ws[i] := by simp [b2]
    have nx : ((i : Int) + 1) = ((i + 1 : Nat) : Int) := by push_cast; rfl
    rw [a1, a2]
    refine wpAny_bind (he i b1 b2 _ _ ?_)
    wp_walk
    rw [nx]
    exact ⟨plainId_quiet plain_eq_loop _, codeAny_builtin entry_eq_loop (by
      rw [Around.under_plainId plain_eq_loop _]
      exact ih (i + 1) (by omega) A R _ ⟨hl, hb, he, h⟩)⟩
theorem list_ne_eq (l b : Addr) (us ws : Array Value) (n m : Nat) (d1 d2 : Option Addr) (t1 t2 : Array (Option Value)) (len : us.size = ws.size) : MeetsIn prog w (Builtin.«list.__ne__» ⟨[.ref l, .ref b], []⟩)
    (fun A R s => s.heap.get? l = some { cls := .type "list", dict := d1, data := .seq us n, slots := t1 } ∧ s.heap.get? b = some { cls := .type "list", dict := d2, data := .seq ws m, slots := t2 } ∧ (∀ j (h1 : j < us.size) (h2 : j < ws.size), EqP prog w A.in1 s us[j] ws[j] true) ∧ R (.ok (.ret (.bool false))) s) := by
  intro A R s h
  obtain ⟨hp, g, d, tk, os⟩ := s
  obtain ⟨hl, hb, he, h⟩ := h
  have f3 := AutoSeq1.sub_list_list
  have ne : ¬ (us.size != ws.size) = true := by simp [len]
  wp_walk using wpAny_loadPart' hl, wpAny_loadPart' hb
  exact ⟨plainId_quiet plain_eq_loop _, codeAny_builtin entry_eq_loop (by
    rw [Around.under_plainId plain_eq_loop _]
    exact ne_loop_eq l b us ws n m d1 d2 t1 t2 len _ 0 rfl A R _ ⟨hl, hb, he, h⟩)⟩
theorem rc_lists_ne {l b : Addr} {us ws : Array Value} (hl : s.heap.IsList l us) (hb : s.heap.IsList b ws) (len : us.size = ws.size) (room : A.units < cLine) (he : ∀ j (h1 : j < us.size) (h2 : j < ws.size), EqP prog w A.in1 s us[j] ws[j] true) (E Q : Value → Shared → Prop) (h : Q (.bool false) s) :
    wpAny (model prog w) A (richCompare .NotEq (.ref l) (.ref b)) Q E s := by
  obtain ⟨⟨c1, d1, x1, t1⟩, o1, e1, n, y1⟩ := id hl
  obtain ⟨⟨c2, d2, x2, t2⟩, o2, e2, m, y2⟩ := id hb
  simp only at e1 y1 e2 y2
  subst e1 y1 e2 y2
  have ta : s.TypeIs (.ref l) "list" := ⟨_, o1, rfl⟩
  have tb : s.TypeIs (.ref b) "list" := ⟨_, o2, rfl⟩
  exact wpAny_richCompare_same_room (op := .NotEq) ta tb F.slot_list_ne (call_meetsIn F.slot_list_ne ta F.entry_list_ne (F.args_list_ne_2 _ _) (list_ne_eq l b us ws n m d1 d2 t1 t2 len)
    ⟨o1, o2, he, show Value.bool false ≠ Value.notImplemented ∧ Q (.bool false) s from ⟨(fun x => nomatch x), h⟩⟩) room
end
section
variable {X : Cx} {pins : List (Addr × Obj)} {σ : L2.St} {H : Hp} {s : Shared}
def BRel (u : NestedKey × Addr × Value) (p : NestedKey × Int) : Prop := u.1 = p.1 ∧ ∃ t, u.2.2 = .int p.2 t
theorem es_keys {P : Program} {w : World} : ∀ {es : NEs} {ds : List (PyData × PyData)}, AtEs P w H es ds → ∀ e ∈ es, At P w H (.ref e.2.1) e.1.data
  | _, _, .nil => fun e he => nomatch he
  | _, _, .cons a _ r => fun e he => by
    rcases List.mem_cons.mp he with rfl | he
    · exact a
    · exact es_keys r e he
theorem bag_rel {P : Program} {w : World} : ∀ {es : NEs} {ds : List (PyData × PyData)} {us : List (NestedKey × Addr × Value)} {L : List (NestedKey × Int)}, AtEs P w H es ds → Paired NRel es us → bagsD ds = some L → Paired BRel us L
  | _, _, _, _, .nil, .nil, h => by
    cases Option.some.inj h
    exact .nil
  | _, _, _, _, .cons (d := d) a1 a2 r, .cons r1 r2, h => by
    cases d with
    | int n =>
      rw [bagsD] at h
      obtain ⟨x, h1, h2⟩ := bind2 h
      obtain ⟨L, h3, h4⟩ := bind2 h2
      cases Option.some.inj h4
      obtain ⟨g1, _⟩ := toKey_inv h1
      rw [toK_data] at g1
      cases g1
      refine .cons ⟨r1.1.symm, ?_⟩ (bag_rel r r2 h3)
      have z := r1.2.2
      rw [a2.int_inv] at z
      exact z
    | _ => cases h
theorem bags_str {x : Str} {d : PyData} {ds : List (PyData × PyData)} {L : List (NestedKey × Int)} (h : bagsD ((.str x, d) :: ds) = some L) : False := by
  cases d <;> simp [bagsD, toKey, toK] at h
theorem bag_open {v : V} {u : Value} {ds : List (PyData × PyData)} {L : List (NestedKey × Int)} (I : Inv X pins σ H s) (a : At X.prog X.w H v (.dict ds)) (rv : RelV v u) (h : bagsD ds = some L) : ∃ q us, u = .ref q ∧ s.heap.DictOfH (nestedKind X.prog X.w) q us ∧ (q == sysModules) = false ∧ Paired BRel us L := by
  cases a with
  | dK h1 h2 =>
    cases rv
    cases h2 with
    | nil =>
      cases Option.some.inj h
      obtain ⟨_, _, ya, va, ra, da⟩ := I.hok _ _ h1
      cases ra
      obtain ⟨o, es, ep, g1, g2, g3, g4, g5, _⟩ := da
      have e0 : es.toList = [] := List.eq_nil_of_length_eq_zero g5.length
      exact ⟨_, [], rfl, ⟨o, es, ep, g1, g2, g3, e0, (fun _ h => nomatch h), List.nodup_nil⟩, ya, .nil⟩
    | cons a1 a2 =>
      exact (bags_str h).elim
  | nd h1 h2 =>
    cases rv
    obtain ⟨us, r, d, e1, _⟩ := nd_openK I (.inr ⟨_, h1⟩) (es_keys h2)
    exact ⟨_, us, rfl, d, e1, bag_rel h2 r h⟩
theorem bag_find {k : NestedKey} {n : Int} : ∀ {us : List (NestedKey × Addr × Value)} {L : List (NestedKey × Int)}, Paired BRel us L → (L.find? fun q => decide (q.1 = k)).map (·.2) = some n → ∃ b t, atKey us k = some (b, .int n t)
  | _, _, .nil, h => by cases h
  | _, _, @Paired.cons _ _ _ u p us L r1 r2, h => by
    by_cases e : p.1 = k
    · rw [List.find?_cons_of_pos (by simpa using e)] at h
      cases Option.some.inj h
      obtain ⟨t, ht⟩ := r1.2
      refine ⟨u.2.1, t, ?_⟩
      unfold atKey
      rw [List.find?_cons_of_pos (by simpa using r1.1.trans e), ← ht]
      rfl
    · rw [List.find?_cons_of_neg (by simpa using e)] at h
      obtain ⟨b, t, q⟩ := bag_find r2 h
      refine ⟨b, t, ?_⟩
      unfold atKey at q ⊢
      rw [List.find?_cons_of_neg (by simpa using fun z => e (r1.1.symm.trans z))]
      exact q
theorem paired_mem {α β : Type} {F : α → β → Prop} : ∀ {xs : List α} {ys : List β}, Paired F xs ys → ∀ x ∈ xs, ∃ y ∈ ys, F x y
  | _, _, .nil => fun x h => nomatch h
  | _, _, .cons r1 r2 => fun x h => by
    rcases List.mem_cons.mp h with rfl | h
    · exact ⟨_, List.mem_cons_self, r1⟩
    · obtain ⟨y, m, f⟩ := paired_mem r2 x h
      exact ⟨y, List.mem_cons_of_mem _ m, f⟩
theorem bag_eq {k : Nat} {v v' : V} {u u' : Value} {a c : List (PyData × PyData)} (I : Inv X pins σ H s) (hr : Room k X.A) (av : At X.prog X.w H v (.dict a)) (ac : At X.prog X.w H v' (.dict c)) (rv : RelV v u) (rc : RelV v' u') (h : sameBag a c = true) : EqP X.prog X.w X.A.in1 s u u' true := by
  have hu := hr.units
  unfold sameBag at h
  split at h
  · rename_i L1 L2 e1 e2
    rw [Bool.and_eq_true] at h
    obtain ⟨q1, us1, rfl, d1, n1, p1⟩ := bag_open I av rv e1
    obtain ⟨q2, us2, rfl, d2, n2, p2⟩ := bag_open I ac rc e2
    have len : us1.length = us2.length := by
      rw [Paired.length p1, Paired.length p2]
      exact of_decide_eq_true h.1
    refine eqP_any fun E Q hq => rc_heap n1 n2 d1 d2 len (by show X.A.units + 1 < cLine; omega) (by show X.A.units + 1 + 1 + 8 < cLine; omega) (fun x hx => ?_) E Q hq
    obtain ⟨p, hp, f1, t1, f2⟩ := paired_mem p1 x hx
    obtain ⟨b, t, g⟩ := bag_find p2 (of_decide_eq_true (List.all_eq_true.mp h.2 p hp))
    refine ⟨_, by rw [f1]; exact g, fun E Q hq => ?_⟩
    rw [f2]
    exact wpAny_eqBool_int (by simpa using hq)
  · cases h
theorem op2_bags {k : Nat} (hr : Room k X.A) : Op2 X (compareOp .NotEq) neBags := by
  intro pins s σ H x y v u Q I rx ry ⟨d, e, z, a, c, hz, q⟩
  have hu := hr.units
  unfold neBags at hz
  split at hz
  · rename_i b1 b2 b3 b4
    obtain ⟨h1, h2⟩ := if_inv hz
    cases Option.some.inj h2
    rw [Bool.and_eq_true] at h1
    obtain ⟨p, o, xs, rfl, e1, e2⟩ := a.lst_inv
    obtain ⟨p', o', ys, rfl, e3, e4⟩ := c.lst_inv
    cases rx
    cases ry
    obtain ⟨us, r1, t1, _⟩ := I.list (.inl (.inr ⟨_, e1⟩))
    obtain ⟨ws, r2, t2, _⟩ := I.list (.inl (.inr ⟨_, e3⟩))
    cases e2 with
    | cons a1 e2 => cases e2 with
      | cons a2 e2 =>
        cases e2
        cases e4 with
        | cons c1 e4 => cases e4 with
          | cons c2 e4 =>
            cases e4
            cases r1 with
            | cons r1 r1' => cases r1' with
              | cons r1' z =>
                cases z
                cases r2 with
                | cons r2 r2' => cases r2' with
                  | cons r2' z =>
                    cases z
                    refine rc_lists_ne t1.isList t2.isList rfl (by omega) (fun j j1 j2 => ?_) _ _ ⟨.bl false, H, I, rfl, q _ H (.refl H) (.bl false)⟩
                    match j, j1, j2 with
                    | 0, _, _ => exact bag_eq I hr a1 c1 r1 r2 h1.1
                    | 1, _, _ => exact bag_eq I hr a2 c2 r1' r2' h1.2
                    | n + 2, j1, _ => exact absurd j1 (by simp)
  · cases hz
end
end Dl
end
section
set_option Elab.async false
set_option linter.all false
set_option autoImplicit false
set_option maxRecDepth 100000
set_option maxHeartbeats 4000000
/-! GenW: the defs' walks (printed by gen.py) -/
namespace Dl
open PySem PySem.Spec PyProof.Rows L2

theorem sc_rank : FnScope ["value"] ["value"] (defScope (top 2)) := ⟨rfl, rfl, rfl, by decide +kernel, rfl, by decide +kernel, by decide +kernel⟩
theorem dd_rank {P : Program} {w : World} {K : PySem.W.Frag} {mg : Str → Option Value} {base : Heap} {f : Addr} {fd : FuncData} (F : FnP K "rank" (top 2) f fd) (hf : mg "rank" = some (.ref f)) (bt : Bt mg) : DD P w K mg base "rank" 1 [] 1 m_rank := by
  refine ⟨⟨f, fd, ["value"], F.ok sc_rank (fun vs H Q E h => h.1) (fun cdv A outer s H vs Q E hr h => ⟨_, body_ok ?_ (by decide) h⟩), hf, F.kp, F.bindsN fun _ _ _ _ _ _ us hl => match us, hl with | [_], _ => rfl⟩, runF_len⟩
  have nd := (sc_rank).nd
  have hT : (⟨H, none, []⟩ : Base).T = [] := rfl
  exact ((sds_cons (sd_if (td_cmp op2_Is (ed_var 0) ed_none) (sds_one (sd_ret (ed_tup (ad_cons ed_int ad_nil)))) sds_nil)
      (sds_one (sd_ret (ed_if (td_val (ed_isi_str bt.isinstance bt.str (ed_var 0))) (ed_tup (ad_cons ed_int (ad_cons (ed_var 0) ad_nil))) (ed_tup (ad_cons ed_int (ad_cons (ed_var 0) ad_nil))))))))
theorem sc_ranks : FnScope ["values", "value"] ["values"] (defScope (top 3)) := ⟨rfl, rfl, rfl, by decide +kernel, rfl, by decide +kernel, by decide +kernel⟩
theorem dd_ranks {P : Program} {w : World} {K : PySem.W.Frag} {mg : Str → Option Value} {base : Heap} {f : Addr} {fd : FuncData} (F : FnP K "ranks" (top 3) f fd) (hf : mg "ranks" = some (.ref f)) (bt : Bt mg) (d_rank : DD P w K mg base "rank" 1 [] 1 m_rank) : DD P w K mg base "ranks" 2 [] 1 m_ranks := by
  refine ⟨⟨f, fd, ["values"], F.ok sc_ranks (fun vs H Q E h => h.1) (fun cdv A outer s H vs Q E hr h => ⟨_, body_ok ?_ (by decide) h⟩), hf, F.kp, F.bindsN fun _ _ _ _ _ _ us hl => match us, hl with | [_], _ => rfl⟩, runF_len⟩
  have nd := (sc_ranks).nd
  have hT : (⟨H, none, []⟩ : Base).T = [] := rfl
  exact ((sds_one (sd_ret (ed_tuple bt.tuple (ed_fz (el_comp (own := [("value", 1)]) (ok := blkOk_by (N := ["values", "value"]) (sc := defScope (top 3)) (by decide +kernel)) nd (id_dat (ed_var 0)) (fun _ _ _ _ _ => (gd_name 1 nd)) (fun _ _ _ _ _ => tds_nil) (fun _ _ _ _ _ => (ed_call hr d_rank (ad_cons (ed_var 1) ad_nil)))))))))
theorem sc_can_part : FnScope ["hows", "how"] ["hows"] (defScope (top 6)) := ⟨rfl, rfl, rfl, by decide +kernel, rfl, by decide +kernel, by decide +kernel⟩
theorem dd_can_part {P : Program} {w : World} {K : PySem.W.Frag} {mg : Str → Option Value} {base : Heap} {f : Addr} {fd : FuncData} (F : FnP K "can_part" (top 6) f fd) (hf : mg "can_part" = some (.ref f)) (bt : Bt mg) : DD P w K mg base "can_part" 1 [] 1 m_can_part := by
  refine ⟨⟨f, fd, ["hows"], F.ok sc_can_part (fun vs H Q E h => h.1) (fun cdv A outer s H vs Q E hr h => ⟨_, body_ok ?_ (by decide) h⟩), hf, F.kp, F.bindsN fun _ _ _ _ _ _ us hl => match us, hl with | [_], _ => rfl⟩, runF_len⟩
  have nd := (sc_can_part).nd
  have hT : (⟨H, none, []⟩ : Base).T = [] := rfl
  exact ((sds_one (sd_ret (ed_all bt.all (ed_fz (el_comp (own := [("how", 1)]) (ok := blkOk_by (N := ["hows", "how"]) (sc := defScope (top 6)) (by decide +kernel)) nd (id_dat (ed_var 0)) (fun _ _ _ _ _ => (gd_name 1 nd)) (fun _ _ _ _ _ => tds_nil) (fun _ _ _ _ _ => (ed_cmp (op2_In hr) (ed_var 1) (ed_tup (ad_cons ed_str (ad_cons ed_str ad_nil)))))))))))
theorem sc_second_hows : FnScope ["hows"] ["hows"] (defScope (top 7)) := ⟨rfl, rfl, rfl, by decide +kernel, rfl, by decide +kernel, by decide +kernel⟩
theorem dd_second_hows {P : Program} {w : World} {K : PySem.W.Frag} {mg : Str → Option Value} {base : Heap} {f : Addr} {fd : FuncData} (F : FnP K "second_hows" (top 7) f fd) (hf : mg "second_hows" = some (.ref f)) (bt : Bt mg) : DD P w K mg base "second_hows" 1 [] 1 m_second_hows := by
  refine ⟨⟨f, fd, ["hows"], F.ok sc_second_hows (fun vs H Q E h => h.1) (fun cdv A outer s H vs Q E hr h => ⟨_, body_ok ?_ (by decide) h⟩), hf, F.kp, F.bindsN fun _ _ _ _ _ _ us hl => match us, hl with | [_], _ => rfl⟩, runF_len⟩
  have nd := (sc_second_hows).nd
  have hT : (⟨H, none, []⟩ : Base).T = [] := rfl
  exact ((sds_one (sd_ret (ed_bin op2_Mul (ed_tup (ad_cons ed_str ad_nil)) (ed_len bt.len (ed_var 0))))))
theorem sc_place_of : FnScope ["row", "time", "sign", "values"] ["row"] (defScope (top 9)) := ⟨rfl, rfl, rfl, by decide +kernel, rfl, by decide +kernel, by decide +kernel⟩
theorem dd_place_of {P : Program} {w : World} {K : PySem.W.Frag} {mg : Str → Option Value} {base : Heap} {f : Addr} {fd : FuncData} (F : FnP K "place_of" (top 9) f fd) (hf : mg "place_of" = some (.ref f)) (bt : Bt mg) (d_ranks : DD P w K mg base "ranks" 2 [] 1 m_ranks) : DD P w K mg base "place_of" 3 [] 1 m_place_of := by
  refine ⟨⟨f, fd, ["row"], F.ok sc_place_of (fun vs H Q E h => h.1) (fun cdv A outer s H vs Q E hr h => ⟨_, body_ok ?_ (by decide) h⟩), hf, F.kp, F.bindsN fun _ _ _ _ _ _ us hl => match us, hl with | [_], _ => rfl⟩, runF_len⟩
  have nd := (sc_place_of).nd
  have hT : (⟨H, none, []⟩ : Base).T = [] := rfl
  exact ((sds_cons (sd_set (gd_tup (gds_cons (gd_name 1 nd) (gds_cons (gd_name 2 nd) (gds_cons (gd_name 3 nd) gds_nil)))) (ed_var 0))
      (sds_one (sd_ret (ed_tup (ad_cons (ed_var 1) (ad_cons (ed_var 2) (ad_cons (ed_call hr d_ranks (ad_cons (ed_var 3) ad_nil)) ad_nil))))))))
theorem sc_bag_of : FnScope ["rows", "found", "row"] ["rows"] (defScope (top 10)) := ⟨rfl, rfl, rfl, by decide +kernel, rfl, by decide +kernel, by decide +kernel⟩
theorem dd_bag_of {P : Program} {w : World} {K : PySem.W.Frag} {mg : Str → Option Value} {base : Heap} {f : Addr} {fd : FuncData} (F : FnP K "bag_of" (top 10) f fd) (hf : mg "bag_of" = some (.ref f)) (bt : Bt mg) : DD P w K mg base "bag_of" 1 [] 1 m_bag_of := by
  refine ⟨⟨f, fd, ["rows"], F.ok sc_bag_of (fun vs H Q E h => h.1) (fun cdv A outer s H vs Q E hr h => ⟨_, body_ok ?_ (by decide) h⟩), hf, F.kp, F.bindsN fun _ _ _ _ _ _ us hl => match us, hl with | [_], _ => rfl⟩, runF_len⟩
  have nd := (sc_bag_of).nd
  have hT : (⟨H, none, []⟩ : Base).T = [] := rfl
  exact ((sds_cons (sd_setV 1 nd (vd_N hT))
      (sds_cons (sd_for (id_dat (ed_var 0)) (gd_name 2 nd) (sds_one (sd_putN hr 1 (ed_var 2) (ed_bin op2_Add (ed_getN hr 1 (ed_var 2) ed_int) ed_int))))
      (sds_one (sd_ret (ed_var 1))))))
theorem sc_worth_at : FnScope ["places", "e", "values", "parts", "part"] ["places", "e", "values"] (defScope (top 15)) := ⟨rfl, rfl, rfl, by decide +kernel, rfl, by decide +kernel, by decide +kernel⟩
theorem dd_worth_at {P : Program} {w : World} {K : PySem.W.Frag} {mg : Str → Option Value} {base : Heap} {f : Addr} {fd : FuncData} (F : FnP K "worth_at" (top 15) f fd) (hf : mg "worth_at" = some (.ref f)) (bt : Bt mg) : DD P w K mg base "worth_at" 1 [] 3 m_worth_at := by
  refine ⟨⟨f, fd, ["places", "e", "values"], F.ok sc_worth_at (fun vs H Q E h => h.1) (fun cdv A outer s H vs Q E hr h => ⟨_, body_ok ?_ (by decide) h⟩), hf, F.kp, F.bindsN fun _ _ _ _ _ _ us hl => match us, hl with | [_, _, _], _ => rfl⟩, runF_len⟩
  have nd := (sc_worth_at).nd
  have hT : (⟨H, none, []⟩ : Base).T = [] := rfl
  exact ((sds_cons (sd_if (td_cmp (op2_Eq hr) (ed_ix hr (ed_var 1) ed_int) ed_str) (sds_one (sd_ret (ed_ix hr (ed_var 2) (ed_ix hr (ed_var 0) (ed_ix hr (ed_var 1) ed_int))))) sds_nil)
      sds_no))
theorem sc_worth : FnScope ["columns", "e", "values", "place", "name", "kind"] ["columns", "e", "values"] (defScope (top 16)) := ⟨rfl, rfl, rfl, by decide +kernel, rfl, by decide +kernel, by decide +kernel⟩
theorem dd_worth {P : Program} {w : World} {K : PySem.W.Frag} {mg : Str → Option Value} {base : Heap} {f : Addr} {fd : FuncData} (F : FnP K "worth" (top 16) f fd) (hf : mg "worth" = some (.ref f)) (bt : Bt mg) (d_worth_at : DD P w K mg base "worth_at" 1 [] 3 m_worth_at) : DD P w K mg base "worth" 2 [] 3 m_worth := by
  refine ⟨⟨f, fd, ["columns", "e", "values"], F.ok sc_worth (fun vs H Q E h => h.1) (fun cdv A outer s H vs Q E hr h => ⟨_, body_ok ?_ (by decide) h⟩), hf, F.kp, F.bindsN fun _ _ _ _ _ _ us hl => match us, hl with | [_, _, _], _ => rfl⟩, runF_len⟩
  have nd := (sc_worth).nd
  have hT : (⟨H, none, []⟩ : Base).T = [] := rfl
  exact ((sds_one (sd_ret (ed_call hr d_worth_at (ad_cons (ed_dcomp (own := [("place", 3), ("name", 4), ("kind", 5)]) (ok := blkOk_by (N := ["columns", "e", "values", "place", "name", "kind"]) (sc := defScope (top 16)) (by decide +kernel)) nd (id_enum bt.enumerate (ed_var 0)) (fun _ _ _ _ _ => (gd_tup (gds_cons (gd_name 3 nd) (gds_cons (gd_tup (gds_cons (gd_name 4 nd) (gds_cons (gd_name 5 nd) gds_nil))) gds_nil)))) (fun _ _ _ _ _ => (ed_var 4)) (fun _ _ _ _ _ => (ed_var 3))) (ad_cons (ed_var 1) (ad_cons (ed_var 2) ad_nil)))))))
theorem sc_made_of : FnScope ["step"] ["step"] (defScope (top 19)) := ⟨rfl, rfl, rfl, by decide +kernel, rfl, by decide +kernel, by decide +kernel⟩
theorem dd_made_of {P : Program} {w : World} {K : PySem.W.Frag} {mg : Str → Option Value} {base : Heap} {f : Addr} {fd : FuncData} (F : FnP K "made_of" (top 19) f fd) (hf : mg "made_of" = some (.ref f)) (bt : Bt mg) : DD P w K mg base "made_of" 1 [] 1 m_made_of := by
  refine ⟨⟨f, fd, ["step"], F.ok sc_made_of (fun vs H Q E h => h.1) (fun cdv A outer s H vs Q E hr h => ⟨_, body_ok ?_ (by decide) h⟩), hf, F.kp, F.bindsN fun _ _ _ _ _ _ us hl => match us, hl with | [_], _ => rfl⟩, runF_len⟩
  have nd := (sc_made_of).nd
  have hT : (⟨H, none, []⟩ : Base).T = [] := rfl
  exact ((sds_cons (sd_if (td_cmp (op2_Eq hr) (ed_ix hr (ed_var 0) ed_int) ed_str) (sds_one (sd_ret (ed_tup ad_nil))) sds_nil)
      (sds_one (sd_ret (ed_if (td_cmp (op2_In hr) (ed_ix hr (ed_var 0) ed_int) (ed_tup (ad_cons ed_str (ad_cons ed_str ad_nil)))) (ed_slT (ed_var 0) sp_int sp_int) (ed_slT (ed_var 0) sp_int sp_int))))))
theorem sc_columns_made : FnScope ["step", "ahead", "first", "found", "name", "how", "e", "pair", "key"] ["step", "ahead"] (defScope (top 21)) := ⟨rfl, rfl, rfl, by decide +kernel, rfl, by decide +kernel, by decide +kernel⟩
theorem dd_columns_made {P : Program} {w : World} {K : PySem.W.Frag} {mg : Str → Option Value} {base : Heap} {f : Addr} {fd : FuncData} (F : FnP K "columns_made" (top 21) f fd) (hf : mg "columns_made" = some (.ref f)) (bt : Bt mg) : DD P w K mg base "columns_made" 1 [] 2 m_columns_made := by
  refine ⟨⟨f, fd, ["step", "ahead"], F.ok sc_columns_made (fun vs H Q E h => h.1) (fun cdv A outer s H vs Q E hr h => ⟨_, body_ok ?_ (by decide) h⟩), hf, F.kp, F.bindsN fun _ _ _ _ _ _ us hl => match us, hl with | [_, _], _ => rfl⟩, runF_len⟩
  have nd := (sc_columns_made).nd
  have hT : (⟨H, none, []⟩ : Base).T = [] := rfl
  exact ((sds_cons (sd_if (td_cmp (op2_Eq hr) (ed_ix hr (ed_var 0) ed_int) ed_str) (sds_one (sd_ret (ed_ix hr (ed_var 0) ed_int))) sds_nil)
      (sds_cons (sd_setV 2 nd (vd_D (ed_ix hr (ed_var 1) (ed_ix hr (ed_var 0) ed_int))))
      (sds_cons (sd_if (td_cmp (op2_In hr) (ed_ix hr (ed_var 0) ed_int) (ed_tup (ad_cons ed_str (ad_cons ed_str ad_nil)))) (sds_one (sd_ret (ed_var 2))) sds_nil)
      (sds_cons (sd_if (td_cmp (op2_Eq hr) (ed_ix hr (ed_var 0) ed_int) ed_str) sds_no sds_nil)
      (sds_cons (sd_if (td_cmp (op2_Eq hr) (ed_ix hr (ed_var 0) ed_int) ed_str) sds_no sds_nil)
      (sds_cons (sd_setV 3 nd (vd_L (el_add (ed_fz (el_comp (own := [("key", 8)]) (ok := blkOk_by (N := ["step", "ahead", "first", "found", "name", "how", "e", "pair", "key"]) (sc := defScope (top 21)) (by decide +kernel)) nd (id_dat (ed_ix hr (ed_var 0) ed_int)) (fun _ _ _ _ _ => (gd_name 8 nd)) (fun _ _ _ _ _ => tds_nil) (fun _ _ _ _ _ => (ed_tup (ad_cons (ed_var 8) (ad_cons (ed_ix hr (ed_dict bt.dict (ed_var 2)) (ed_var 8)) ad_nil)))))) (ed_fz (el_disp (ad_cons (ed_tup (ad_cons ed_str (ad_cons ed_str ad_nil))) (ad_cons (ed_tup (ad_cons ed_str (ad_cons ed_str ad_nil))) ad_nil)))))))
      (sds_cons (sd_for (id_dat (ed_ix hr (ed_var 0) ed_int)) (gd_tup (gds_cons (gd_name 4 nd) (gds_cons (gd_name 5 nd) (gds_cons (gd_name 6 nd) gds_nil)))) (sds_one (sd_app 3 (ed_tup (ad_cons (ed_var 4) (ad_cons (ed_if (td_cmp (op2_In hr) (ed_var 5) (ed_tup (ad_cons ed_str (ad_cons ed_str ad_nil)))) ed_str ed_no) ad_nil))))))
      (sds_one (sd_ret (ed_tuple bt.tuple (ed_var 3))))))))))))
theorem sc_step_of : FnScope ["query", "name"] ["query", "name"] (defScope (top 22)) := ⟨rfl, rfl, rfl, by decide +kernel, rfl, by decide +kernel, by decide +kernel⟩
theorem dd_step_of {P : Program} {w : World} {K : PySem.W.Frag} {mg : Str → Option Value} {base : Heap} {f : Addr} {fd : FuncData} (F : FnP K "step_of" (top 22) f fd) (hf : mg "step_of" = some (.ref f)) (bt : Bt mg) : DD P w K mg base "step_of" 1 [] 2 m_step_of := by
  refine ⟨⟨f, fd, ["query", "name"], F.ok sc_step_of (fun vs H Q E h => h.1) (fun cdv A outer s H vs Q E hr h => ⟨_, body_ok ?_ (by decide) h⟩), hf, F.kp, F.bindsN fun _ _ _ _ _ _ us hl => match us, hl with | [_, _], _ => rfl⟩, runF_len⟩
  have nd := (sc_step_of).nd
  have hT : (⟨H, none, []⟩ : Base).T = [] := rfl
  exact ((sds_one (sd_ret (ed_ix hr (ed_dict bt.dict (ed_slT (ed_var 0) sp_none sp_neg)) (ed_var 1)))))
theorem sc_columns_of : FnScope ["query", "name", "ahead", "other", "step"] ["query", "name"] (defScope (top 23)) := ⟨rfl, rfl, rfl, by decide +kernel, rfl, by decide +kernel, by decide +kernel⟩
theorem dd_columns_of {P : Program} {w : World} {K : PySem.W.Frag} {mg : Str → Option Value} {base : Heap} {f : Addr} {fd : FuncData} (F : FnP K "columns_of" (top 23) f fd) (hf : mg "columns_of" = some (.ref f)) (bt : Bt mg) (d_columns_made : DD P w K mg base "columns_made" 1 [] 2 m_columns_made) : DD P w K mg base "columns_of" 2 [] 2 m_columns_of := by
  refine ⟨⟨f, fd, ["query", "name"], F.ok sc_columns_of (fun vs H Q E h => h.1) (fun cdv A outer s H vs Q E hr h => ⟨_, body_ok ?_ (by decide) h⟩), hf, F.kp, F.bindsN fun _ _ _ _ _ _ us hl => match us, hl with | [_, _], _ => rfl⟩, runF_len⟩
  have nd := (sc_columns_of).nd
  have hT : (⟨H, none, []⟩ : Base).T = [] := rfl
  exact ((sds_cons (sd_setV 2 nd vd_K)
      (sds_cons (sd_for (id_dat (ed_slT (ed_var 0) sp_none sp_neg)) (gd_tup (gds_cons (gd_name 3 nd) (gds_cons (gd_name 4 nd) gds_nil))) (sds_one (sd_putK hr 2 (ed_var 3) (ed_lend 2 (ed_call hr d_columns_made (ad_cons (ed_var 4) (ad_cons (ed_var 2) ad_nil)))))))
      (sds_one (sd_ret (ed_ix hr (ed_var 2) (ed_var 1)))))))
theorem sc_steps_ahead : FnScope ["query", "name"] ["query", "name"] (defScope (top 24)) := ⟨rfl, rfl, rfl, by decide +kernel, rfl, by decide +kernel, by decide +kernel⟩
theorem dd_steps_ahead {P : Program} {w : World} {K : PySem.W.Frag} {mg : Str → Option Value} {base : Heap} {f : Addr} {fd : FuncData} (F : FnP K "steps_ahead" (top 24) f fd) (hf : mg "steps_ahead" = some (.ref f)) (bt : Bt mg) (d_made_of : DD P w K mg base "made_of" 1 [] 1 m_made_of) (d_step_of : DD P w K mg base "step_of" 1 [] 2 m_step_of) : DD P w K mg base "steps_ahead" 2 [] 2 m_steps_ahead := by
  refine ⟨⟨f, fd, ["query", "name"], F.ok sc_steps_ahead (fun vs H Q E h => h.1) (fun cdv A outer s H vs Q E hr h => ⟨_, body_ok ?_ (by decide) h⟩), hf, F.kp, F.bindsN fun _ _ _ _ _ _ us hl => match us, hl with | [_, _], _ => rfl⟩, runF_len⟩
  have nd := (sc_steps_ahead).nd
  have hT : (⟨H, none, []⟩ : Base).T = [] := rfl
  exact ((sds_one (sd_ret (ed_call hr d_made_of (ad_cons (ed_call hr d_step_of (ad_cons (ed_var 0) (ad_cons (ed_var 1) ad_nil))) ad_nil)))))
theorem sc_out_of : FnScope ["query"] ["query"] (defScope (top 25)) := ⟨rfl, rfl, rfl, by decide +kernel, rfl, by decide +kernel, by decide +kernel⟩
theorem dd_out_of {P : Program} {w : World} {K : PySem.W.Frag} {mg : Str → Option Value} {base : Heap} {f : Addr} {fd : FuncData} (F : FnP K "out_of" (top 25) f fd) (hf : mg "out_of" = some (.ref f)) (bt : Bt mg) : DD P w K mg base "out_of" 1 [] 1 m_out_of := by
  refine ⟨⟨f, fd, ["query"], F.ok sc_out_of (fun vs H Q E h => h.1) (fun cdv A outer s H vs Q E hr h => ⟨_, body_ok ?_ (by decide) h⟩), hf, F.kp, F.bindsN fun _ _ _ _ _ _ us hl => match us, hl with | [_], _ => rfl⟩, runF_len⟩
  have nd := (sc_out_of).nd
  have hT : (⟨H, none, []⟩ : Base).T = [] := rfl
  exact ((sds_one (sd_ret (ed_ix hr (ed_ix hr (ed_var 0) (ed_neg ed_int)) ed_int))))
theorem sc_mark_of : FnScope ["part", "entry"] ["part"] (defScope (top 28)) := ⟨rfl, rfl, rfl, by decide +kernel, rfl, by decide +kernel, by decide +kernel⟩
theorem dd_mark_of {P : Program} {w : World} {K : PySem.W.Frag} {mg : Str → Option Value} {base : Heap} {f : Addr} {fd : FuncData} (F : FnP K "mark_of" (top 28) f fd) (hf : mg "mark_of" = some (.ref f)) (bt : Bt mg) : DD P w K mg base "mark_of" 1 [] 1 m_mark_of := by
  refine ⟨⟨f, fd, ["part"], F.ok sc_mark_of (fun vs H Q E h => h.1) (fun cdv A outer s H vs Q E hr h => ⟨_, body_ok ?_ (by decide) h⟩), hf, F.kp, F.bindsN fun _ _ _ _ _ _ us hl => match us, hl with | [_], _ => rfl⟩, runF_len⟩
  have nd := (sc_mark_of).nd
  have hT : (⟨H, none, []⟩ : Base).T = [] := rfl
  exact ((sds_one (sd_ret (ed_maxDf hr bt.max (ed_fz (el_comp (own := [("entry", 1)]) (ok := blkOk_by (N := ["part", "entry"]) (sc := defScope (top 28)) (by decide +kernel)) nd (id_dat (ed_var 0)) (fun _ _ _ _ _ => (gd_name 1 nd)) (fun _ _ _ _ _ => tds_one (td_cmp (op2_Eq hr) (ed_ix hr (ed_var 1) ed_int) ed_str)) (fun _ _ _ _ _ => (ed_ix hr (ed_var 1) ed_int)))) ed_int))))
theorem sc_marks_of : FnScope ["query", "told", "found", "name", "step", "part", "other"] ["query", "told"] (defScope (top 29)) := ⟨rfl, rfl, rfl, by decide +kernel, rfl, by decide +kernel, by decide +kernel⟩
theorem dd_marks_of {P : Program} {w : World} {K : PySem.W.Frag} {mg : Str → Option Value} {base : Heap} {f : Addr} {fd : FuncData} (F : FnP K "marks_of" (top 29) f fd) (hf : mg "marks_of" = some (.ref f)) (bt : Bt mg) (d_mark_of : DD P w K mg base "mark_of" 1 [] 1 m_mark_of) (d_steps_ahead : DD P w K mg base "steps_ahead" 2 [] 2 m_steps_ahead) : DD P w K mg base "marks_of" 3 [] 2 m_marks_of := by
  refine ⟨⟨f, fd, ["query", "told"], F.ok sc_marks_of (fun vs H Q E h => h.1) (fun cdv A outer s H vs Q E hr h => ⟨_, body_ok ?_ (by decide) h⟩), hf, F.kp, F.bindsN fun _ _ _ _ _ _ us hl => match us, hl with | [_, _], _ => rfl⟩, runF_len⟩
  have nd := (sc_marks_of).nd
  have hT : (⟨H, none, []⟩ : Base).T = [] := rfl
  exact ((sds_cons (sd_setV 2 nd vd_K)
      (sds_cons (sd_for (id_dat (ed_slT (ed_var 0) sp_none sp_neg)) (gd_tup (gds_cons (gd_name 3 nd) (gds_cons (gd_name 4 nd) gds_nil))) (sds_one (sd_if (td_cmp (op2_Eq hr) (ed_ix hr (ed_var 4) ed_int) ed_str) (sds_one (sd_putK hr 2 (ed_var 3) (ed_minDf hr bt.min (ed_fz (el_comp (own := [("part", 5)]) (ok := blkOk_by (N := ["query", "told", "found", "name", "step", "part", "other"]) (sc := defScope (top 29)) (by decide +kernel)) nd (id_dat (ed_ix hr (ed_var 1) (ed_var 3))) (fun _ _ _ _ _ => (gd_name 5 nd)) (fun _ _ _ _ _ => tds_nil) (fun _ _ _ _ _ => (ed_call hr d_mark_of (ad_cons (ed_var 5) ad_nil))))) (ed_glob rfl bt.END)))) (sds_one (sd_putK hr 2 (ed_var 3) (ed_min bt.min (ed_fz (el_comp (own := [("other", 6)]) (ok := blkOk_by (N := ["query", "told", "found", "name", "step", "part", "other"]) (sc := defScope (top 29)) (by decide +kernel)) nd (id_dat (ed_call hr d_steps_ahead (ad_cons (ed_var 0) (ad_cons (ed_var 3) ad_nil)))) (fun _ _ _ _ _ => (gd_name 6 nd)) (fun _ _ _ _ _ => tds_nil) (fun _ _ _ _ _ => (ed_ixO hr 2 (ed_var 6)))))))))))
      (sds_one (sd_ret (ed_var 2))))))
theorem sc_late_of : FnScope ["part", "found", "mark", "number", "entry"] ["part"] (defScope (top 30)) := ⟨rfl, rfl, rfl, by decide +kernel, rfl, by decide +kernel, by decide +kernel⟩
theorem dd_late_of {P : Program} {w : World} {K : PySem.W.Frag} {mg : Str → Option Value} {base : Heap} {f : Addr} {fd : FuncData} (F : FnP K "late_of" (top 30) f fd) (hf : mg "late_of" = some (.ref f)) (bt : Bt mg) : DD P w K mg base "late_of" 1 [] 1 m_late_of := by
  refine ⟨⟨f, fd, ["part"], F.ok sc_late_of (fun vs H Q E h => h.1) (fun cdv A outer s H vs Q E hr h => ⟨_, body_ok ?_ (by decide) h⟩), hf, F.kp, F.bindsN fun _ _ _ _ _ _ us hl => match us, hl with | [_], _ => rfl⟩, runF_len⟩
  have nd := (sc_late_of).nd
  have hT : (⟨H, none, []⟩ : Base).T = [] := rfl
  exact ((sds_cons (sd_par 1 2 nd (vd_L (el_disp ad_nil)) (vd_D ed_int))
      (sds_cons (sd_for (id_enum bt.enumerate (ed_var 0)) (gd_tup (gds_cons (gd_name 3 nd) (gds_cons (gd_name 4 nd) gds_nil))) (sds_one (sd_if (td_cmp (op2_Eq hr) (ed_ix hr (ed_var 4) ed_int) ed_str) (sds_one (sd_setV 2 nd (vd_D (ed_max2 bt.max (ed_var 2) (ed_ix hr (ed_var 4) ed_int))))) (sds_one (sd_if (td_cmp op2_Lt (ed_ix hr (ed_var 4) ed_int) (ed_var 2)) (sds_one (sd_app 1 (ed_var 3))) sds_nil)))))
      (sds_one (sd_ret (ed_var 1))))))
theorem sc_of_source : FnScope ["name", "parts", "found", "number", "part", "past", "place", "entry"] ["name", "parts"] (defScope (top 31)) := ⟨rfl, rfl, rfl, by decide +kernel, rfl, by decide +kernel, by decide +kernel⟩
theorem dd_of_source {P : Program} {w : World} {K : PySem.W.Frag} {mg : Str → Option Value} {base : Heap} {f : Addr} {fd : FuncData} (F : FnP K "of_source" (top 31) f fd) (hf : mg "of_source" = some (.ref f)) (bt : Bt mg) (d_late_of : DD P w K mg base "late_of" 1 [] 1 m_late_of) : DD P w K mg base "of_source" 2 [] 2 m_of_source := by
  refine ⟨⟨f, fd, ["name", "parts"], F.ok sc_of_source (fun vs H Q E h => h.1) (fun cdv A outer s H vs Q E hr h => ⟨_, body_ok ?_ (by decide) h⟩), hf, F.kp, F.bindsN fun _ _ _ _ _ _ us hl => match us, hl with | [_, _], _ => rfl⟩, runF_len⟩
  have nd := (sc_of_source).nd
  have hT : (⟨H, none, []⟩ : Base).T = [] := rfl
  exact ((sds_cons (sd_setV 2 nd (vd_L (el_disp ad_nil)))
      (sds_cons (sd_for (id_enum bt.enumerate (ed_var 1)) (gd_tup (gds_cons (gd_name 3 nd) (gds_cons (gd_name 4 nd) gds_nil))) (sds_cons (sd_setV 5 nd (vd_D (ed_call hr d_late_of (ad_cons (ed_var 4) ad_nil))))
      (sds_one (sd_for (id_enum bt.enumerate (ed_var 4)) (gd_tup (gds_cons (gd_name 6 nd) (gds_cons (gd_name 7 nd) gds_nil))) (sds_one (sd_if (wd_td (wd_and (td_cmp (op2_Eq hr) (ed_ix hr (ed_var 7) ed_int) ed_str) (wd_and1 (td_cmp (op2_NotIn hr) (ed_var 6) (ed_var 5))))) (sds_one (sd_app 2 (ed_tup (ad_cons (ed_slT (ed_var 7) sp_int sp_none) (ad_cons (ed_tup (ad_cons (ed_tup (ad_cons (ed_var 0) (ad_cons (ed_var 3) (ad_cons (ed_var 6) ad_nil)))) ad_nil)) ad_nil))))) sds_nil))))))
      (sds_one (sd_ret (ed_var 2))))))
theorem sc_worths_of : FnScope ["columns", "names", "values", "places", "name", "kind"] ["columns", "names", "values"] (defScope (top 33)) := ⟨rfl, rfl, rfl, by decide +kernel, rfl, by decide +kernel, by decide +kernel⟩
theorem dd_worths_of {P : Program} {w : World} {K : PySem.W.Frag} {mg : Str → Option Value} {base : Heap} {f : Addr} {fd : FuncData} (F : FnP K "worths_of" (top 33) f fd) (hf : mg "worths_of" = some (.ref f)) (bt : Bt mg) : DD P w K mg base "worths_of" 1 [] 3 m_worths_of := by
  refine ⟨⟨f, fd, ["columns", "names", "values"], F.ok sc_worths_of (fun vs H Q E h => h.1) (fun cdv A outer s H vs Q E hr h => ⟨_, body_ok ?_ (by decide) h⟩), hf, F.kp, F.bindsN fun _ _ _ _ _ _ us hl => match us, hl with | [_, _, _], _ => rfl⟩, runF_len⟩
  have nd := (sc_worths_of).nd
  have hT : (⟨H, none, []⟩ : Base).T = [] := rfl
  exact ((sds_cons (sd_setV 3 nd (vd_D (ed_fz (el_comp (own := [("name", 4), ("kind", 5)]) (ok := blkOk_by (N := ["columns", "names", "values", "places", "name", "kind"]) (sc := defScope (top 33)) (by decide +kernel)) nd (id_dat (ed_var 0)) (fun _ _ _ _ _ => (gd_tup (gds_cons (gd_name 4 nd) (gds_cons (gd_name 5 nd) gds_nil)))) (fun _ _ _ _ _ => tds_nil) (fun _ _ _ _ _ => (ed_var 4))))))
      (sds_one (sd_ret (ed_tuple bt.tuple (ed_fz (el_comp (own := [("name", 4)]) (ok := blkOk_by (N := ["columns", "names", "values", "places", "name", "kind"]) (sc := defScope (top 33)) (by decide +kernel)) nd (id_dat (ed_var 1)) (fun _ _ _ _ _ => (gd_name 4 nd)) (fun _ _ _ _ _ => tds_nil) (fun _ _ _ _ _ => (ed_ix hr (ed_var 2) (ed_index (ed_var 3) (ed_var 4)))))))))))
theorem sc_spans_of : FnScope ["window", "time", "size", "step", "last", "begin"] ["window", "time"] (defScope (top 35)) := ⟨rfl, rfl, rfl, by decide +kernel, rfl, by decide +kernel, by decide +kernel⟩
theorem dd_spans_of {P : Program} {w : World} {K : PySem.W.Frag} {mg : Str → Option Value} {base : Heap} {f : Addr} {fd : FuncData} (F : FnP K "spans_of" (top 35) f fd) (hf : mg "spans_of" = some (.ref f)) (bt : Bt mg) : DD P w K mg base "spans_of" 1 [] 2 m_spans_of := by
  refine ⟨⟨f, fd, ["window", "time"], F.ok sc_spans_of (fun vs H Q E h => h.1) (fun cdv A outer s H vs Q E hr h => ⟨_, body_ok ?_ (by decide) h⟩), hf, F.kp, F.bindsN fun _ _ _ _ _ _ us hl => match us, hl with | [_, _], _ => rfl⟩, runF_len⟩
  have nd := (sc_spans_of).nd
  have hT : (⟨H, none, []⟩ : Base).T = [] := rfl
  exact ((sds_cons (sd_parG 2 3 nd (vd_D (ed_ix hr (ed_var 0) ed_int)) (vd_D (ed_ix hr (ed_var 0) (ed_neg ed_int))))
      (sds_cons (sd_setV 4 nd (vd_D (ed_bin op2_Sub (ed_var 1) (ed_bin op2_Mod (ed_var 1) (ed_var 3)))))
      (sds_one (sd_ret (ed_fz (el_comp (own := [("begin", 5)]) (ok := blkOk_by (N := ["window", "time", "size", "step", "last", "begin"]) (sc := defScope (top 35)) (by decide +kernel)) nd (id_range3 bt.range (ed_var 4) (ed_max2 bt.max (ed_bin op2_Sub (ed_var 1) (ed_var 2)) (ed_neg ed_int)) (ed_neg (ed_var 3))) (fun _ _ _ _ _ => (gd_name 5 nd)) (fun _ _ _ _ _ => tds_nil) (fun _ _ _ _ _ => (ed_tup (ad_cons (ed_var 5) (ad_cons (ed_bin op2_Add (ed_var 5) (ed_var 2)) ad_nil)))))))))))
theorem sc_summed : FnScope ["how", "signed", "net", "value", "sign", "left", "many"] ["how", "signed"] (defScope (top 37)) := ⟨rfl, rfl, rfl, by decide +kernel, rfl, by decide +kernel, by decide +kernel⟩
theorem dd_summed {P : Program} {w : World} {K : PySem.W.Frag} {mg : Str → Option Value} {base : Heap} {f : Addr} {fd : FuncData} (F : FnP K "summed" (top 37) f fd) (hf : mg "summed" = some (.ref f)) (bt : Bt mg) : DD P w K mg base "summed" 3 [] 2 m_summed := by
  refine ⟨⟨f, fd, ["how", "signed"], F.ok sc_summed (fun vs H Q E h => h.1) (fun cdv A outer s H vs Q E hr h => ⟨_, body_ok ?_ (by decide) h⟩), hf, F.kp, F.bindsN fun _ _ _ _ _ _ us hl => match us, hl with | [_, _], _ => rfl⟩, runF_len⟩
  have nd := (sc_summed).nd
  have hT : (⟨H, none, []⟩ : Base).T = [] := rfl
  exact ((sds_cons (sd_if (td_cmp (op2_Eq hr) (ed_var 0) ed_str) (sds_one (sd_ret (ed_sum bt.sum (ed_fz (el_comp (own := [("value", 3), ("sign", 4)]) (ok := blkOk_by (N := ["how", "signed", "net", "value", "sign", "left", "many"]) (sc := defScope (top 37)) (by decide +kernel)) nd (id_dat (ed_var 1)) (fun _ _ _ _ _ => (gd_tup (gds_cons (gd_name 3 nd) (gds_cons (gd_name 4 nd) gds_nil)))) (fun _ _ _ _ _ => tds_nil) (fun _ _ _ _ _ => (ed_var 4))))))) sds_nil)
      (sds_cons (sd_if (td_cmp (op2_Eq hr) (ed_var 0) ed_str) (sds_one (sd_ret (ed_sum bt.sum (ed_fz (el_comp (own := [("value", 3), ("sign", 4)]) (ok := blkOk_by (N := ["how", "signed", "net", "value", "sign", "left", "many"]) (sc := defScope (top 37)) (by decide +kernel)) nd (id_dat (ed_var 1)) (fun _ _ _ _ _ => (gd_tup (gds_cons (gd_name 3 nd) (gds_cons (gd_name 4 nd) gds_nil)))) (fun _ _ _ _ _ => tds_one (td_cmp op2_IsNot (ed_var 3) ed_none)) (fun _ _ _ _ _ => (ed_bin op2_Mul (ed_var 3) (ed_var 4)))))))) sds_nil)
      sds_no)))
theorem sc_sums_of : FnScope ["columns", "step", "mark", "given_rows", "found", "key", "some", "begin", "end", "line", "told", "name", "how", "e", "row", "lot"] ["columns", "step", "mark", "given_rows"] (defScope (top 38)) := ⟨rfl, rfl, rfl, by decide +kernel, rfl, by decide +kernel, by decide +kernel⟩
theorem dd_sums_of {P : Program} {w : World} {K : PySem.W.Frag} {mg : Str → Option Value} {base : Heap} {f : Addr} {fd : FuncData} (F : FnP K "sums_of" (top 38) f fd) (hf : mg "sums_of" = some (.ref f)) (bt : Bt mg) (d_by_keys : DD P w K mg base "by_keys" 2 [] 3 m_by_keys) (d_in_windows : DD P w K mg base "in_windows" 2 [] 2 m_in_windows) (d_summed : DD P w K mg base "summed" 3 [] 2 m_summed) (d_worth : DD P w K mg base "worth" 2 [] 3 m_worth) (d_together : DD P w K mg base "together" 1 [] 1 m_together) : DD P w K mg base "sums_of" 4 [] 4 m_sums_of := by
  refine ⟨⟨f, fd, ["columns", "step", "mark", "given_rows"], F.ok sc_sums_of (fun vs H Q E h => h.1) (fun cdv A outer s H vs Q E hr h => ⟨_, body_ok ?_ (by decide) h⟩), hf, F.kp, F.bindsN fun _ _ _ _ _ _ us hl => match us, hl with | [_, _, _, _], _ => rfl⟩, runF_len⟩
  have nd := (sc_sums_of).nd
  have hT : (⟨H, none, []⟩ : Base).T = [] := rfl
  exact ((sds_cons (sd_setV 4 nd (vd_L (el_disp ad_nil)))
      (sds_cons (sd_for (id_items (ed_call hr d_by_keys (ad_cons (ed_var 0) (ad_cons (ed_ix hr (ed_var 1) ed_int) (ad_cons (ed_var 3) ad_nil))))) (gd_tup (gds_cons (gd_name 5 nd) (gds_cons (gd_name 6 nd) gds_nil))) (sds_one (sd_for (id_items (ed_call hr d_in_windows (ad_cons (ed_ix hr (ed_var 1) ed_int) (ad_cons (ed_var 6) ad_nil)))) (gd_tup (gds_cons (gd_tup (gds_cons (gd_name 7 nd) (gds_cons (gd_name 8 nd) gds_nil))) (gds_cons (gd_name 9 nd) gds_nil))) (sds_one (sd_if (wd_td (wd_or (td_cmp op2_Le (ed_var 8) (ed_var 2)) (wd_or1 (td_cmp (op2_Eq hr) (ed_var 2) (ed_glob rfl bt.END))))) (sds_cons (sd_setV 10 nd (vd_L (el_disp ad_nil)))
      (sds_cons (sd_for (id_dat (ed_ix hr (ed_var 1) ed_int)) (gd_tup (gds_cons (gd_name 11 nd) (gds_cons (gd_name 12 nd) (gds_cons (gd_name 13 nd) gds_nil)))) (sds_one (sd_app 10 (ed_call hr d_summed (ad_cons (ed_var 12) (ad_cons (ed_fz (el_comp (own := [("row", 14), ("lot", 15)]) (ok := blkOk_by (N := ["columns", "step", "mark", "given_rows", "found", "key", "some", "begin", "end", "line", "told", "name", "how", "e", "row", "lot"]) (sc := defScope (top 38)) (by decide +kernel)) nd (id_dat (ed_var 9)) (fun _ _ _ _ _ => (gd_tup (gds_cons (gd_name 14 nd) (gds_cons (gd_name 15 nd) gds_nil)))) (fun _ _ _ _ _ => tds_nil) (fun _ _ _ _ _ => (ed_tup (ad_cons (ed_call hr d_worth (ad_cons (ed_var 0) (ad_cons (ed_var 13) (ad_cons (ed_ix hr (ed_var 14) ed_int) ad_nil)))) (ad_cons (ed_ix hr (ed_var 14) ed_int) ad_nil)))))) ad_nil))))))
      (sds_one (sd_app 4 (ed_tup (ad_cons (ed_tup (ad_cons (ed_bin op2_Sub (ed_var 8) ed_int) (ad_cons ed_int (ad_cons (ed_tup (ad_star (ed_var 5) (ad_cons (ed_var 7) (ad_cons (ed_var 8) (ad_star (ed_var 10) ad_nil))))) ad_nil)))) (ad_cons (ed_call hr d_together (ad_cons (ed_fz (el_comp (own := [("row", 14), ("lot", 15)]) (ok := blkOk_by (N := ["columns", "step", "mark", "given_rows", "found", "key", "some", "begin", "end", "line", "told", "name", "how", "e", "row", "lot"]) (sc := defScope (top 38)) (by decide +kernel)) nd (id_dat (ed_var 9)) (fun _ _ _ _ _ => (gd_tup (gds_cons (gd_name 14 nd) (gds_cons (gd_name 15 nd) gds_nil)))) (fun _ _ _ _ _ => tds_nil) (fun _ _ _ _ _ => (ed_var 15)))) ad_nil)) ad_nil))))))) sds_nil)))))
      (sds_one (sd_ret (ed_var 4))))))
theorem sc_of_step : FnScope ["query", "name", "told", "mark", "before", "step", "some", "columns", "found", "time", "sign", "values", "lot", "left", "right", "other", "row", "column", "e"] ["query", "name", "told", "mark", "before"] (defScope (top 40)) := ⟨rfl, rfl, rfl, by decide +kernel, rfl, by decide +kernel, by decide +kernel⟩
theorem dd_of_step {P : Program} {w : World} {K : PySem.W.Frag} {mg : Str → Option Value} {base : Heap} {f : Addr} {fd : FuncData} (F : FnP K "of_step" (top 40) f fd) (hf : mg "of_step" = some (.ref f)) (bt : Bt mg) (d_step_of : DD P w K mg base "step_of" 1 [] 2 m_step_of) (d_steps_ahead : DD P w K mg base "steps_ahead" 2 [] 2 m_steps_ahead) (d_columns_of : DD P w K mg base "columns_of" 2 [] 2 m_columns_of) (d_of_source : DD P w K mg base "of_source" 2 [] 2 m_of_source) (d_sums_of : DD P w K mg base "sums_of" 4 [] 4 m_sums_of) : DD P w K mg base "of_step" 5 [] 5 m_of_step := by
  refine ⟨⟨f, fd, ["query", "name", "told", "mark", "before"], F.ok sc_of_step (fun vs H Q E h => h.1) (fun cdv A outer s H vs Q E hr h => ⟨_, body_ok ?_ (by decide) h⟩), hf, F.kp, F.bindsN fun _ _ _ _ _ _ us hl => match us, hl with | [_, _, _, _, _], _ => rfl⟩, runF_len⟩
  have nd := (sc_of_step).nd
  have hT : (⟨H, none, []⟩ : Base).T = [] := rfl
  exact ((sds_cons (sd_setV 5 nd (vd_D (ed_call hr d_step_of (ad_cons (ed_var 0) (ad_cons (ed_var 1) ad_nil)))))
      (sds_cons (sd_setLcD 6 (own := [("other", 15)]) (ok := blkOk_by (N := ["query", "name", "told", "mark", "before", "step", "some", "columns", "found", "time", "sign", "values", "lot", "left", "right", "other", "row", "column", "e"]) (sc := defScope (top 40)) (by decide +kernel)) nd (id_dat (ed_call hr d_steps_ahead (ad_cons (ed_var 0) (ad_cons (ed_var 1) ad_nil)))) (fun _ _ _ _ _ => (gd_name 15 nd)) (fun _ _ _ _ _ => tds_nil) (fun _ _ _ _ _ => (ed_ix hr (ed_var 4) (ed_var 15))))
      (sds_cons (sd_setV 7 nd (vd_D (ed_fz (el_comp (own := [("other", 15)]) (ok := blkOk_by (N := ["query", "name", "told", "mark", "before", "step", "some", "columns", "found", "time", "sign", "values", "lot", "left", "right", "other", "row", "column", "e"]) (sc := defScope (top 40)) (by decide +kernel)) nd (id_dat (ed_call hr d_steps_ahead (ad_cons (ed_var 0) (ad_cons (ed_var 1) ad_nil)))) (fun _ _ _ _ _ => (gd_name 15 nd)) (fun _ _ _ _ _ => tds_nil) (fun _ _ _ _ _ => (ed_call hr d_columns_of (ad_cons (ed_var 0) (ad_cons (ed_var 15) ad_nil))))))))
      (sds_cons (sd_if (td_cmp (op2_Eq hr) (ed_ix hr (ed_var 5) ed_int) ed_str) (sds_one (sd_ret (ed_call hr d_of_source (ad_cons (ed_var 1) (ad_cons (ed_ix hr (ed_var 2) (ed_var 1)) ad_nil))))) sds_nil)
      (sds_cons (sd_if (td_cmp (op2_Eq hr) (ed_ix hr (ed_var 5) ed_int) ed_str) sds_no sds_nil)
      (sds_cons (sd_if (td_cmp (op2_Eq hr) (ed_ix hr (ed_var 5) ed_int) ed_str) sds_no sds_nil)
      (sds_cons (sd_if (td_cmp (op2_Eq hr) (ed_ix hr (ed_var 5) ed_int) ed_str) (sds_one (sd_ret (ed_fz (el_add (ed_ix hr (ed_var 4) (ed_ix hr (ed_var 5) ed_int)) (ed_ix hr (ed_var 4) (ed_ix hr (ed_var 5) ed_int)))))) sds_nil)
      (sds_cons (sd_if (td_cmp (op2_Eq hr) (ed_ix hr (ed_var 5) ed_int) ed_str) (sds_one (sd_ret (ed_call hr d_sums_of (ad_cons (ed_ix hr (ed_var 7) ed_int) (ad_cons (ed_var 5) (ad_cons (ed_var 3) (ad_cons (ed_ix hr (ed_var 6) ed_int) ad_nil))))))) sds_nil)
      sds_no)))))))))
theorem sc_law_rank : FnScope ["_law_value"] ["_law_value"] (defScope (top 45)) := ⟨rfl, rfl, rfl, by decide +kernel, rfl, by decide +kernel, by decide +kernel⟩
theorem dd_law_rank {P : Program} {w : World} {K : PySem.W.Frag} {mg : Str → Option Value} {base : Heap} {f : Addr} {fd : FuncData} (F : FnP K "_law_rank" (top 45) f fd) (hf : mg "_law_rank" = some (.ref f)) (bt : Bt mg) : DD P w K mg base "_law_rank" 1 [] 1 m_law_rank := by
  refine ⟨⟨f, fd, ["_law_value"], F.ok sc_law_rank (fun vs H Q E h => h.1) (fun cdv A outer s H vs Q E hr h => ⟨_, body_ok ?_ (by decide) h⟩), hf, F.kp, F.bindsN fun _ _ _ _ _ _ us hl => match us, hl with | [_], _ => rfl⟩, runF_len⟩
  have nd := (sc_law_rank).nd
  have hT : (⟨H, none, []⟩ : Base).T = [] := rfl
  exact ((sds_cons (sd_if (td_cmp op2_Is (ed_var 0) ed_none) (sds_one (sd_ret (ed_tup (ad_cons ed_int (ad_cons ed_int (ad_cons ed_str ad_nil)))))) sds_nil)
      (sds_one (sd_ret (ed_if (td_val (ed_isi_int bt.isinstance bt.int (ed_var 0))) (ed_tup (ad_cons ed_int (ad_cons (ed_var 0) (ad_cons ed_str ad_nil)))) (ed_tup (ad_cons ed_int (ad_cons ed_int (ad_cons (ed_var 0) ad_nil)))))))))
theorem sc_law_bag : FnScope ["_law_rows", "_law_found", "_law_row"] ["_law_rows"] (defScope (top 46)) := ⟨rfl, rfl, rfl, by decide +kernel, rfl, by decide +kernel, by decide +kernel⟩
theorem dd_law_bag {P : Program} {w : World} {K : PySem.W.Frag} {mg : Str → Option Value} {base : Heap} {f : Addr} {fd : FuncData} (F : FnP K "_law_bag" (top 46) f fd) (hf : mg "_law_bag" = some (.ref f)) (bt : Bt mg) : DD P w K mg base "_law_bag" 1 [] 1 m_law_bag := by
  refine ⟨⟨f, fd, ["_law_rows"], F.ok sc_law_bag (fun vs H Q E h => h.1) (fun cdv A outer s H vs Q E hr h => ⟨_, body_ok ?_ (by decide) h⟩), hf, F.kp, F.bindsN fun _ _ _ _ _ _ us hl => match us, hl with | [_], _ => rfl⟩, runF_len⟩
  have nd := (sc_law_bag).nd
  have hT : (⟨H, none, []⟩ : Base).T = [] := rfl
  exact ((sds_cons (sd_setV 1 nd (vd_N hT))
      (sds_cons (sd_for (id_dat (ed_var 0)) (gd_name 2 nd) (sds_one (sd_putN hr 1 (ed_var 2) (ed_bin op2_Add (ed_getN hr 1 (ed_var 2) ed_int) ed_int))))
      (sds_one (sd_ret (ed_var 1))))))
theorem sc_law_any_order : FnScope ["_law_source", "_law_things", "_law_others", "_law_lap"] ["_law_source", "_law_things"] (defScope (top 49)) := ⟨rfl, rfl, rfl, by decide +kernel, rfl, by decide +kernel, by decide +kernel⟩
theorem ds_law_any_order {P : Program} {w : World} {K : PySem.W.Frag} {mg : Str → Option Value} {base : Heap} {f : Addr} {fd : FuncData} (F : FnP K "_law_any_order" (top 49) f fd) (hf : mg "_law_any_order" = some (.ref f)) (bt : Bt mg) (d_law_pick : DS P w K mg base "_law_pick" 1 2 m_law_pick) : DS P w K mg base "_law_any_order" 2 2 m_law_any_order := by
  refine ⟨⟨f, fd, ["_law_source", "_law_things"], F.ok sc_law_any_order (fun vs H Q E h => h.1) (fun cdv A outer s H vs Q E hr h => body_okS (fun sx => ?_) (by decide) h), hf, F.kp, F.bindsN fun _ _ _ _ _ _ us hl => match us, hl with | [_, _], _ => rfl⟩, runS_len⟩
  have nd := (sc_law_any_order).nd
  have hT : (⟨H, some sx, []⟩ : Base).T = [] := rfl
  exact ((sds_cons (sd_setV 2 nd (vd_L (el_list bt.list (ed_var 1))))
      (sds_one (sd_ret (ed_fz (el_comp (own := [("_law_lap", 3)]) (ok := blkOk_by (N := ["_law_source", "_law_things", "_law_others", "_law_lap"]) (sc := defScope (top 49)) (by decide +kernel)) nd (id_range bt.range (ed_lenO 2 bt.len)) (fun _ _ _ _ _ => (gd_name 3 nd)) (fun _ _ _ _ _ => tds_nil) (fun _ _ _ _ _ => (ed_popO 2 (ed_callS hr d_law_pick 0 (ad_cons (ed_lenO 2 bt.len) ad_nil))))))))))
theorem sc_law_ranks : FnScope ["_law_values", "_law_value"] ["_law_values"] (defScope (top 50)) := ⟨rfl, rfl, rfl, by decide +kernel, rfl, by decide +kernel, by decide +kernel⟩
theorem dd_law_ranks {P : Program} {w : World} {K : PySem.W.Frag} {mg : Str → Option Value} {base : Heap} {f : Addr} {fd : FuncData} (F : FnP K "_law_ranks" (top 50) f fd) (hf : mg "_law_ranks" = some (.ref f)) (bt : Bt mg) (d_law_rank : DD P w K mg base "_law_rank" 1 [] 1 m_law_rank) : DD P w K mg base "_law_ranks" 2 [] 1 m_law_ranks := by
  refine ⟨⟨f, fd, ["_law_values"], F.ok sc_law_ranks (fun vs H Q E h => h.1) (fun cdv A outer s H vs Q E hr h => ⟨_, body_ok ?_ (by decide) h⟩), hf, F.kp, F.bindsN fun _ _ _ _ _ _ us hl => match us, hl with | [_], _ => rfl⟩, runF_len⟩
  have nd := (sc_law_ranks).nd
  have hT : (⟨H, none, []⟩ : Base).T = [] := rfl
  exact ((sds_one (sd_ret (ed_tuple bt.tuple (ed_fz (el_comp (own := [("_law_value", 1)]) (ok := blkOk_by (N := ["_law_values", "_law_value"]) (sc := defScope (top 50)) (by decide +kernel)) nd (id_dat (ed_var 0)) (fun _ _ _ _ _ => (gd_name 1 nd)) (fun _ _ _ _ _ => tds_nil) (fun _ _ _ _ _ => (ed_call hr d_law_rank (ad_cons (ed_var 1) ad_nil)))))))))
theorem sc_law_tally : FnScope ["_law_how", "_law_pairs", "_law_some", "_law_net", "_law_given", "_law_sign"] ["_law_how", "_law_pairs"] (defScope (top 51)) := ⟨rfl, rfl, rfl, by decide +kernel, rfl, by decide +kernel, by decide +kernel⟩
theorem dd_law_tally {P : Program} {w : World} {K : PySem.W.Frag} {mg : Str → Option Value} {base : Heap} {f : Addr} {fd : FuncData} (F : FnP K "_law_tally" (top 51) f fd) (hf : mg "_law_tally" = some (.ref f)) (bt : Bt mg) : DD P w K mg base "_law_tally" 3 [] 2 m_law_tally := by
  refine ⟨⟨f, fd, ["_law_how", "_law_pairs"], F.ok sc_law_tally (fun vs H Q E h => h.1) (fun cdv A outer s H vs Q E hr h => ⟨_, body_ok ?_ (by decide) h⟩), hf, F.kp, F.bindsN fun _ _ _ _ _ _ us hl => match us, hl with | [_, _], _ => rfl⟩, runF_len⟩
  have nd := (sc_law_tally).nd
  have hT : (⟨H, none, []⟩ : Base).T = [] := rfl
  exact ((sds_cons (sd_if (td_cmp (op2_Eq hr) (ed_var 0) ed_str) (sds_one (sd_ret (ed_sum bt.sum (ed_fz (el_comp (own := [("_law_given", 4), ("_law_sign", 5)]) (ok := blkOk_by (N := ["_law_how", "_law_pairs", "_law_some", "_law_net", "_law_given", "_law_sign"]) (sc := defScope (top 51)) (by decide +kernel)) nd (id_dat (ed_var 1)) (fun _ _ _ _ _ => (gd_tup (gds_cons (gd_name 4 nd) (gds_cons (gd_name 5 nd) gds_nil)))) (fun _ _ _ _ _ => tds_nil) (fun _ _ _ _ _ => (ed_var 5))))))) sds_nil)
      (sds_cons (sd_parG 2 3 nd (vd_D (ed_fz (el_comp (own := [("_law_given", 4), ("_law_sign", 5)]) (ok := blkOk_by (N := ["_law_how", "_law_pairs", "_law_some", "_law_net", "_law_given", "_law_sign"]) (sc := defScope (top 51)) (by decide +kernel)) nd (id_dat (ed_var 1)) (fun _ _ _ _ _ => (gd_tup (gds_cons (gd_name 4 nd) (gds_cons (gd_name 5 nd) gds_nil)))) (fun _ _ _ _ _ => tds_one (td_cmp op2_IsNot (ed_var 4) ed_none)) (fun _ _ _ _ _ => (ed_tup (ad_cons (ed_var 4) (ad_cons (ed_var 5) ad_nil))))))) (vd_D ed_dict0))
      (sds_cons (sd_if (td_cmp (op2_Eq hr) (ed_var 0) ed_str) (sds_one (sd_ret (ed_sum bt.sum (ed_fz (el_comp (own := [("_law_given", 4), ("_law_sign", 5)]) (ok := blkOk_by (N := ["_law_how", "_law_pairs", "_law_some", "_law_net", "_law_given", "_law_sign"]) (sc := defScope (top 51)) (by decide +kernel)) nd (id_dat (ed_var 2)) (fun _ _ _ _ _ => (gd_tup (gds_cons (gd_name 4 nd) (gds_cons (gd_name 5 nd) gds_nil)))) (fun _ _ _ _ _ => tds_nil) (fun _ _ _ _ _ => (ed_bin op2_Mul (ed_var 5) (ed_var 4)))))))) sds_nil)
      sds_no))))
theorem sc_law_tell : FnScope ["_law_how", "_law_tally_here", "_law_there", "_law_given", "_law_n"] ["_law_how", "_law_tally_here"] (defScope (top 52)) := ⟨rfl, rfl, rfl, by decide +kernel, rfl, by decide +kernel, by decide +kernel⟩
theorem dd_law_tell {P : Program} {w : World} {K : PySem.W.Frag} {mg : Str → Option Value} {base : Heap} {f : Addr} {fd : FuncData} (F : FnP K "_law_tell" (top 52) f fd) (hf : mg "_law_tell" = some (.ref f)) (bt : Bt mg) : DD P w K mg base "_law_tell" 1 [] 2 m_law_tell := by
  refine ⟨⟨f, fd, ["_law_how", "_law_tally_here"], F.ok sc_law_tell (fun vs H Q E h => h.1) (fun cdv A outer s H vs Q E hr h => ⟨_, body_ok ?_ (by decide) h⟩), hf, F.kp, F.bindsN fun _ _ _ _ _ _ us hl => match us, hl with | [_, _], _ => rfl⟩, runF_len⟩
  have nd := (sc_law_tell).nd
  have hT : (⟨H, none, []⟩ : Base).T = [] := rfl
  exact ((sds_cons (sd_if (td_cmp (op2_In hr) (ed_var 0) (ed_tup (ad_cons ed_str (ad_cons ed_str ad_nil)))) (sds_one (sd_ret (ed_var 1))) sds_nil)
      sds_no))
theorem sc_law_given_rank : FnScope ["_law_row"] ["_law_row"] (defScope (top 53)) := ⟨rfl, rfl, rfl, by decide +kernel, rfl, by decide +kernel, by decide +kernel⟩
theorem dd_law_given_rank {P : Program} {w : World} {K : PySem.W.Frag} {mg : Str → Option Value} {base : Heap} {f : Addr} {fd : FuncData} (F : FnP K "_law_given_rank" (top 53) f fd) (hf : mg "_law_given_rank" = some (.ref f)) (bt : Bt mg) (d_law_ranks : DD P w K mg base "_law_ranks" 2 [] 1 m_law_ranks) : DD P w K mg base "_law_given_rank" 3 [] 1 m_law_given_rank := by
  refine ⟨⟨f, fd, ["_law_row"], F.ok sc_law_given_rank (fun vs H Q E h => h.1) (fun cdv A outer s H vs Q E hr h => ⟨_, body_ok ?_ (by decide) h⟩), hf, F.kp, F.bindsN fun _ _ _ _ _ _ us hl => match us, hl with | [_], _ => rfl⟩, runF_len⟩
  have nd := (sc_law_given_rank).nd
  have hT : (⟨H, none, []⟩ : Base).T = [] := rfl
  exact ((sds_one (sd_ret (ed_tup (ad_cons (ed_ix hr (ed_var 0) ed_int) (ad_cons (ed_ix hr (ed_var 0) ed_int) (ad_cons (ed_call hr d_law_ranks (ad_cons (ed_ix hr (ed_var 0) ed_int) ad_nil)) ad_nil)))))))
theorem sc_law_windows_at : FnScope ["_law_window", "_law_time", "_law_low", "_law_lows"] ["_law_window", "_law_time"] (defScope (top 54)) := ⟨rfl, rfl, rfl, by decide +kernel, rfl, by decide +kernel, by decide +kernel⟩
theorem dd_law_windows_at {P : Program} {w : World} {K : PySem.W.Frag} {mg : Str → Option Value} {base : Heap} {f : Addr} {fd : FuncData} (F : FnP K "_law_windows_at" (top 54) f fd) (hf : mg "_law_windows_at" = some (.ref f)) (bt : Bt mg) : DD P w K mg base "_law_windows_at" 1 [] 2 m_law_windows_at := by
  refine ⟨⟨f, fd, ["_law_window", "_law_time"], F.ok sc_law_windows_at (fun vs H Q E h => h.1) (fun cdv A outer s H vs Q E hr h => ⟨_, body_ok ?_ (by decide) h⟩), hf, F.kp, F.bindsN fun _ _ _ _ _ _ us hl => match us, hl with | [_, _], _ => rfl⟩, runF_len⟩
  have nd := (sc_law_windows_at).nd
  have hT : (⟨H, none, []⟩ : Base).T = [] := rfl
  exact ((sds_cons (sd_if (td_cmp (op2_Eq hr) (ed_ix hr (ed_var 0) ed_int) ed_str) (sds_cons (sd_setV 2 nd (vd_D (ed_bin op2_Sub (ed_var 1) (ed_bin op2_Mod (ed_int' bt.int (ed_var 1)) (ed_ix hr (ed_var 0) ed_int)))))
      (sds_one (sd_ret (ed_fz (el_disp (ad_cons (ed_tup (ad_cons (ed_var 2) (ad_cons (ed_bin op2_Add (ed_var 2) (ed_ix hr (ed_var 0) ed_int)) ad_nil))) ad_nil)))))) sds_nil)
      sds_no))
theorem sc_law_sums_of : FnScope ["_law_rows", "_law_hows", "_law_tallies", "_law_how", "_law_k", "_law_row", "_law_pairs"] ["_law_rows", "_law_hows"] (defScope (top 56)) := ⟨rfl, rfl, rfl, by decide +kernel, rfl, by decide +kernel, by decide +kernel⟩
theorem dd_law_sums_of {P : Program} {w : World} {K : PySem.W.Frag} {mg : Str → Option Value} {base : Heap} {f : Addr} {fd : FuncData} (F : FnP K "_law_sums_of" (top 56) f fd) (hf : mg "_law_sums_of" = some (.ref f)) (bt : Bt mg) (d_law_tell : DD P w K mg base "_law_tell" 1 [] 2 m_law_tell) (d_law_tally : DD P w K mg base "_law_tally" 3 [] 2 m_law_tally) : DD P w K mg base "_law_sums_of" 4 [] 2 m_law_sums_of := by
  refine ⟨⟨f, fd, ["_law_rows", "_law_hows"], F.ok sc_law_sums_of (fun vs H Q E h => h.1) (fun cdv A outer s H vs Q E hr h => ⟨_, body_ok ?_ (by decide) h⟩), hf, F.kp, F.bindsN fun _ _ _ _ _ _ us hl => match us, hl with | [_, _], _ => rfl⟩, runF_len⟩
  have nd := (sc_law_sums_of).nd
  have hT : (⟨H, none, []⟩ : Base).T = [] := rfl
  exact ((sds_cons (sd_setLcD 2 (own := [("_law_how", 3), ("_law_k", 4)]) (ok := blkOk_by (N := ["_law_rows", "_law_hows", "_law_tallies", "_law_how", "_law_k", "_law_row", "_law_pairs"]) (sc := defScope (top 56)) (by decide +kernel)) nd (id_dat (ed_var 1)) (fun _ _ _ _ _ => (gd_tup (gds_cons (gd_name 3 nd) (gds_cons (gd_name 4 nd) gds_nil)))) (fun _ _ _ _ _ => tds_nil) (fun _ _ _ _ _ => (ed_tup (ad_cons (ed_var 3) (ad_cons (ed_fz (el_comp (own := [("_law_row", 5)]) (ok := blkOk_by (by rfl)) nd (id_dat (ed_var 0)) (fun _ _ _ _ _ => (gd_name 5 nd)) (fun _ _ _ _ _ => tds_nil) (fun _ _ _ _ _ => (ed_tup (ad_cons (ed_ix hr (ed_ix hr (ed_var 5) ed_int) (ed_var 4)) (ad_cons (ed_ix hr (ed_var 5) ed_int) ad_nil)))))) ad_nil)))))
      (sds_one (sd_ret (ed_tuple bt.tuple (ed_fz (el_comp (own := [("_law_how", 3), ("_law_pairs", 6)]) (ok := blkOk_by (N := ["_law_rows", "_law_hows", "_law_tallies", "_law_how", "_law_k", "_law_row", "_law_pairs"]) (sc := defScope (top 56)) (by decide +kernel)) nd (id_dat (ed_var 2)) (fun _ _ _ _ _ => (gd_tup (gds_cons (gd_name 3 nd) (gds_cons (gd_name 6 nd) gds_nil)))) (fun _ _ _ _ _ => tds_nil) (fun _ _ _ _ _ => (ed_call hr d_law_tell (ad_cons (ed_var 3) (ad_cons (ed_call hr d_law_tally (ad_cons (ed_var 3) (ad_cons (ed_var 6) ad_nil))) ad_nil)))))))))))
theorem sc_law_sum_rows : FnScope ["_law_rows", "_law_places", "_law_window", "_law_hows", "_law_mark", "_law_keys", "_law_found", "_law_row", "_law_key", "_law_mine", "_law_some", "_law_low", "_law_high", "_law_lot", "_law_k", "_law_one"] ["_law_rows", "_law_places", "_law_window", "_law_hows", "_law_mark"] (defScope (top 57)) := ⟨rfl, rfl, rfl, by decide +kernel, rfl, by decide +kernel, by decide +kernel⟩
theorem dd_law_sum_rows {P : Program} {w : World} {K : PySem.W.Frag} {mg : Str → Option Value} {base : Heap} {f : Addr} {fd : FuncData} (F : FnP K "_law_sum_rows" (top 57) f fd) (hf : mg "_law_sum_rows" = some (.ref f)) (bt : Bt mg) (d_law_windows_at : DD P w K mg base "_law_windows_at" 1 [] 2 m_law_windows_at) (d_law_sums_of : DD P w K mg base "_law_sums_of" 4 [] 2 m_law_sums_of) (d_law_given_rank : DD P w K mg base "_law_given_rank" 3 [] 1 m_law_given_rank) : DD P w K mg base "_law_sum_rows" 7 [] 5 m_law_sum_rows := by
  refine ⟨⟨f, fd, ["_law_rows", "_law_places", "_law_window", "_law_hows", "_law_mark"], F.ok sc_law_sum_rows (fun vs H Q E h => h.1) (fun cdv A outer s H vs Q E hr h => ⟨_, body_ok ?_ (by decide) h⟩), hf, F.kp, F.bindsN fun _ _ _ _ _ _ us hl => match us, hl with | [_, _, _, _, _], _ => rfl⟩, runF_len⟩
  have nd := (sc_law_sum_rows).nd
  have hT : (⟨H, none, []⟩ : Base).T = [] := rfl
  exact ((sds_cons (sd_par 5 6 nd (vd_D (ed_fz (el_disp ad_nil))) (vd_L (el_disp ad_nil)))
      (sds_cons (sd_for (id_dat (ed_var 0)) (gd_name 7 nd) (sds_cons (sd_setV 8 nd (vd_D (ed_tuple bt.tuple (ed_fz (el_comp (own := [("_law_k", 14)]) (ok := blkOk_by (N := ["_law_rows", "_law_places", "_law_window", "_law_hows", "_law_mark", "_law_keys", "_law_found", "_law_row", "_law_key", "_law_mine", "_law_some", "_law_low", "_law_high", "_law_lot", "_law_k", "_law_one"]) (sc := defScope (top 57)) (by decide +kernel)) nd (id_dat (ed_var 1)) (fun _ _ _ _ _ => (gd_name 14 nd)) (fun _ _ _ _ _ => tds_nil) (fun _ _ _ _ _ => (ed_ix hr (ed_ix hr (ed_var 7) ed_int) (ed_var 14))))))))
      (sds_one (sd_setV 5 nd (vd_D (ed_if (td_cmp (op2_In hr) (ed_var 8) (ed_var 5)) (ed_var 5) (ed_fz (el_add (ed_var 5) (ed_fz (el_disp (ad_cons (ed_var 8) ad_nil)))))))))))
      (sds_cons (sd_for (id_dat (ed_var 5)) (gd_name 8 nd) (sds_cons (sd_setLcD 9 (own := [("_law_row", 7)]) (ok := blkOk_by (N := ["_law_rows", "_law_places", "_law_window", "_law_hows", "_law_mark", "_law_keys", "_law_found", "_law_row", "_law_key", "_law_mine", "_law_some", "_law_low", "_law_high", "_law_lot", "_law_k", "_law_one"]) (sc := defScope (top 57)) (by decide +kernel)) nd (id_dat (ed_var 0)) (fun _ _ _ _ _ => (gd_name 7 nd)) (fun _ _ _ _ _ => tds_one (td_cmp (op2_Eq hr) (ed_tuple bt.tuple (ed_fz (el_comp (own := [("_law_k", 14)]) (ok := blkOk_by (by rfl)) nd (id_dat (ed_var 1)) (fun _ _ _ _ _ => (gd_name 14 nd)) (fun _ _ _ _ _ => tds_nil) (fun _ _ _ _ _ => (ed_ix hr (ed_ix hr (ed_var 7) ed_int) (ed_var 14)))))) (ed_var 8))) (fun _ _ _ _ _ => (ed_var 7)))
      (sds_cons (sd_setV 10 nd (vd_D (ed_if (td_cmp (op2_Eq hr) (ed_ix hr (ed_var 2) ed_int) ed_str) ed_no (ed_fz (el_disp ad_nil)))))
      (sds_cons (sd_for (id_dat (ed_var 9)) (gd_name 7 nd) (sds_one (sd_if (td_cmp (op2_Ne hr) (ed_ix hr (ed_var 2) ed_int) ed_str) (sds_one (sd_setV 10 nd (vd_D (ed_fz (el_add (ed_var 10) (ed_fz (el_comp (own := [("_law_one", 15)]) (ok := blkOk_by (N := ["_law_rows", "_law_places", "_law_window", "_law_hows", "_law_mark", "_law_keys", "_law_found", "_law_row", "_law_key", "_law_mine", "_law_some", "_law_low", "_law_high", "_law_lot", "_law_k", "_law_one"]) (sc := defScope (top 57)) (by decide +kernel)) nd (id_dat (ed_call hr d_law_windows_at (ad_cons (ed_var 2) (ad_cons (ed_ix hr (ed_var 7) ed_int) ad_nil)))) (fun _ _ _ _ _ => (gd_name 15 nd)) (fun _ _ _ _ _ => tds_one (td_cmp (op2_NotIn hr) (ed_var 15) (ed_var 10))) (fun _ _ _ _ _ => (ed_var 15))))))))) sds_nil)))
      (sds_one (sd_for (id_dat (ed_var 10)) (gd_tup (gds_cons (gd_name 11 nd) (gds_cons (gd_name 12 nd) gds_nil))) (sds_one (sd_if (wd_td (wd_or (td_cmp op2_Le (ed_var 12) (ed_var 4)) (wd_or1 (td_cmp (op2_Eq hr) (ed_var 4) (ed_bin op2_Pow ed_int ed_int))))) (sds_cons (sd_setLcD 13 (own := [("_law_row", 7)]) (ok := blkOk_by (N := ["_law_rows", "_law_places", "_law_window", "_law_hows", "_law_mark", "_law_keys", "_law_found", "_law_row", "_law_key", "_law_mine", "_law_some", "_law_low", "_law_high", "_law_lot", "_law_k", "_law_one"]) (sc := defScope (top 57)) (by decide +kernel)) nd (id_dat (ed_var 9)) (fun _ _ _ _ _ => (gd_name 7 nd)) (fun _ _ _ _ _ => tds_one (td_chain op2_Le op2_Lt (ed_var 11) (ed_ix hr (ed_var 7) ed_int) (ed_var 12))) (fun _ _ _ _ _ => (ed_var 7)))
      (sds_one (sd_app 6 (ed_tup (ad_cons (ed_bin op2_Sub (ed_var 12) ed_int) (ad_cons ed_int (ad_cons (ed_bin op2_Add (ed_bin op2_Add (ed_var 8) (ed_tup (ad_cons (ed_var 11) (ad_cons (ed_var 12) ad_nil)))) (ed_call hr d_law_sums_of (ad_cons (ed_var 13) (ad_cons (ed_var 3) ad_nil)))) ad_nil))))))) sds_nil))))))))
      (sds_one (sd_ret (ed_fz (el_sort hr d_law_given_rank bt.sorted (ed_var 6)))))))))
theorem sc_law_draw_rows : FnScope ["_law_source", "_law_many", "_law_low", "_law_found", "_law_lap", "_law_values", "_law_time", "_law_sign"] ["_law_source", "_law_many", "_law_low"] (defScope (top 58)) := ⟨rfl, rfl, rfl, by decide +kernel, rfl, by decide +kernel, by decide +kernel⟩
theorem ds_law_draw_rows {P : Program} {w : World} {K : PySem.W.Frag} {mg : Str → Option Value} {base : Heap} {f : Addr} {fd : FuncData} (F : FnP K "_law_draw_rows" (top 58) f fd) (hf : mg "_law_draw_rows" = some (.ref f)) (bt : Bt mg) (d_law_pick : DS P w K mg base "_law_pick" 1 2 m_law_pick) : DS P w K mg base "_law_draw_rows" 2 3 m_law_draw_rows := by
  refine ⟨⟨f, fd, ["_law_source", "_law_many", "_law_low"], F.ok sc_law_draw_rows (fun vs H Q E h => h.1) (fun cdv A outer s H vs Q E hr h => body_okS (fun sx => ?_) (by decide) h), hf, F.kp, F.bindsN fun _ _ _ _ _ _ us hl => match us, hl with | [_, _, _], _ => rfl⟩, runS_len⟩
  have nd := (sc_law_draw_rows).nd
  have hT : (⟨H, some sx, []⟩ : Base).T = [] := rfl
  exact ((sds_cons (sd_setV 3 nd (vd_L (el_disp ad_nil)))
      (sds_cons (sd_for (id_range bt.range (ed_var 1)) (gd_name 4 nd) (sds_cons (sd_setV 5 nd (vd_D (ed_tup (ad_cons (ed_ix hr (ed_fz (el_disp (ad_cons ed_none (ad_cons ed_str (ad_cons ed_str (ad_cons ed_str ad_nil)))))) (ed_callS hr d_law_pick 0 (ad_cons ed_int ad_nil))) (ad_cons (ed_ix hr (ed_fz (el_disp (ad_cons ed_none (ad_cons ed_int (ad_cons ed_int (ad_cons (ed_bin op2_Sub ed_int ed_int) (ad_cons ed_int (ad_cons (ed_bin op2_Pow ed_int ed_int) ad_nil)))))))) (ed_callS hr d_law_pick 0 (ad_cons ed_int ad_nil))) ad_nil)))))
      (sds_cons (sd_app 3 (ed_tup (ad_cons (ed_bin op2_Add (ed_var 2) (ed_callS hr d_law_pick 0 (ad_cons ed_int ad_nil))) (ad_cons (ed_ix hr (ed_fz (el_disp (ad_cons ed_int (ad_cons ed_int (ad_cons (ed_bin op2_Sub ed_int ed_int) ad_nil))))) (ed_callS hr d_law_pick 0 (ad_cons ed_int ad_nil))) (ad_cons (ed_var 5) ad_nil)))))
      (sds_one (sd_if (td_cmp (op2_Eq hr) (ed_callS hr d_law_pick 0 (ad_cons ed_int ad_nil)) ed_int) (sds_cons (sd_set (gd_tup (gds_cons (gd_name 6 nd) (gds_cons (gd_name 7 nd) (gds_cons (gd_name 5 nd) gds_nil)))) (ed_ixO hr 3 (ed_callS hr d_law_pick 0 (ad_cons (ed_lenO 3 bt.len) ad_nil))))
      (sds_one (sd_app 3 (ed_tup (ad_cons (ed_var 6) (ad_cons (ed_bin op2_Sub ed_int (ed_var 7)) (ad_cons (ed_var 5) ad_nil))))))) sds_nil)))))
      (sds_one (sd_ret (ed_var 3))))))
theorem sc_law_draw_marks : FnScope ["_law_source", "_law_rows", "_law_found", "_law_order", "_law_k", "_law_row", "_law_least", "_law_kept", "_law_last", "_law_thing", "_law_late"] ["_law_source", "_law_rows"] (defScope (top 59)) := ⟨rfl, rfl, rfl, by decide +kernel, rfl, by decide +kernel, by decide +kernel⟩
theorem ds_law_draw_marks {P : Program} {w : World} {K : PySem.W.Frag} {mg : Str → Option Value} {base : Heap} {f : Addr} {fd : FuncData} (F : FnP K "_law_draw_marks" (top 59) f fd) (hf : mg "_law_draw_marks" = some (.ref f)) (bt : Bt mg) (d_law_any_order : DS P w K mg base "_law_any_order" 2 2 m_law_any_order) (d_law_pick : DS P w K mg base "_law_pick" 1 2 m_law_pick) : DS P w K mg base "_law_draw_marks" 3 2 m_law_draw_marks := by
  refine ⟨⟨f, fd, ["_law_source", "_law_rows"], F.ok sc_law_draw_marks (fun vs H Q E h => h.1) (fun cdv A outer s H vs Q E hr h => body_okS (fun sx => ?_) (by decide) h), hf, F.kp, F.bindsN fun _ _ _ _ _ _ us hl => match us, hl with | [_, _], _ => rfl⟩, runS_len⟩
  have nd := (sc_law_draw_marks).nd
  have hT : (⟨H, some sx, []⟩ : Base).T = [] := rfl
  exact ((sds_cons (sd_par 2 3 nd (vd_L (el_disp ad_nil)) (vd_D (ed_callS hr d_law_any_order 0 (ad_cons (ed_var 1) ad_nil))))
      (sds_cons (sd_for (id_enum bt.enumerate (ed_var 3)) (gd_tup (gds_cons (gd_name 4 nd) (gds_cons (gd_name 5 nd) gds_nil))) (sds_cons (sd_if (td_cmp (op2_Eq hr) (ed_callS hr d_law_pick 0 (ad_cons ed_int ad_nil)) ed_int) (sds_cons (sd_setV 6 nd (vd_D (ed_min bt.min (ed_fz (el_comp (own := [("_law_late", 10)]) (ok := blkOk_by (N := ["_law_source", "_law_rows", "_law_found", "_law_order", "_law_k", "_law_row", "_law_least", "_law_kept", "_law_last", "_law_thing", "_law_late"]) (sc := defScope (top 59)) (by decide +kernel)) nd (id_dat (ed_fz (el_from (ed_var 3) (ed_var 4)))) (fun _ _ _ _ _ => (gd_name 10 nd)) (fun _ _ _ _ _ => tds_nil) (fun _ _ _ _ _ => (ed_ix hr (ed_var 10) ed_int)))))))
      (sds_one (sd_app 2 (ed_tup (ad_cons ed_str (ad_cons (ed_callS hr d_law_pick 0 (ad_cons (ed_bin op2_Add (ed_var 6) ed_int) ad_nil)) ad_nil)))))) sds_nil)
      (sds_one (sd_app 2 (ed_tup (ad_cons ed_str (ad_cons (ed_var 5) ad_nil)))))))
      (sds_cons (sd_par 7 8 nd (vd_D (ed_fz (el_disp ad_nil))) (vd_D ed_int))
      (sds_cons (sd_for (id_dat (ed_var 2)) (gd_name 9 nd) (sds_one (sd_if (wd_td (wd_or (td_cmp (op2_Eq hr) (ed_ix hr (ed_var 9) ed_int) ed_str) (wd_or1 (td_cmp op2_Gt (ed_ix hr (ed_var 9) ed_int) (ed_var 8))))) (sds_one (sd_par 7 8 nd (vd_D (ed_fz (el_add (ed_var 7) (ed_fz (el_disp (ad_cons (ed_var 9) ad_nil)))))) (vd_D (ed_if (td_cmp (op2_Eq hr) (ed_ix hr (ed_var 9) ed_int) ed_str) (ed_ix hr (ed_var 9) ed_int) (ed_var 8))))) sds_nil)))
      (sds_one (sd_ret (ed_var 7))))))))
theorem sc_law_draw_entries : FnScope ["_law_source", "_law_rows", "_law_found", "_law_thing"] ["_law_source", "_law_rows"] (defScope (top 60)) := ⟨rfl, rfl, rfl, by decide +kernel, rfl, by decide +kernel, by decide +kernel⟩
theorem ds_law_draw_entries {P : Program} {w : World} {K : PySem.W.Frag} {mg : Str → Option Value} {base : Heap} {f : Addr} {fd : FuncData} (F : FnP K "_law_draw_entries" (top 60) f fd) (hf : mg "_law_draw_entries" = some (.ref f)) (bt : Bt mg) (d_law_draw_marks : DS P w K mg base "_law_draw_marks" 3 2 m_law_draw_marks) : DS P w K mg base "_law_draw_entries" 4 2 m_law_draw_entries := by
  refine ⟨⟨f, fd, ["_law_source", "_law_rows"], F.ok sc_law_draw_entries (fun vs H Q E h => h.1) (fun cdv A outer s H vs Q E hr h => body_okS (fun sx => ?_) (by decide) h), hf, F.kp, F.bindsN fun _ _ _ _ _ _ us hl => match us, hl with | [_, _], _ => rfl⟩, runS_len⟩
  have nd := (sc_law_draw_entries).nd
  have hT : (⟨H, some sx, []⟩ : Base).T = [] := rfl
  exact ((sds_cons (sd_setV 2 nd (vd_L (el_disp ad_nil)))
      (sds_cons (sd_for (id_dat (ed_callS hr d_law_draw_marks 0 (ad_cons (ed_var 1) ad_nil))) (gd_name 3 nd) (sds_one (sd_app 2 (ed_if (td_cmp (op2_Eq hr) (ed_ix hr (ed_var 3) ed_int) ed_str) (ed_tup (ad_cons ed_str (ad_cons (ed_ix hr (ed_var 3) ed_int) ad_nil))) (ed_bin op2_Add (ed_tup (ad_cons ed_str ad_nil)) (ed_ix hr (ed_var 3) ed_int))))))
      (sds_one (sd_ret (ed_tuple bt.tuple (ed_var 2)))))))
theorem sc_law_mark_of : FnScope ["_law_parts", "_law_marks", "_law_part", "_law_entry"] ["_law_parts"] (defScope (top 61)) := ⟨rfl, rfl, rfl, by decide +kernel, rfl, by decide +kernel, by decide +kernel⟩
theorem dd_law_mark_of {P : Program} {w : World} {K : PySem.W.Frag} {mg : Str → Option Value} {base : Heap} {f : Addr} {fd : FuncData} (F : FnP K "_law_mark_of" (top 61) f fd) (hf : mg "_law_mark_of" = some (.ref f)) (bt : Bt mg) : DD P w K mg base "_law_mark_of" 1 [] 1 m_law_mark_of := by
  refine ⟨⟨f, fd, ["_law_parts"], F.ok sc_law_mark_of (fun vs H Q E h => h.1) (fun cdv A outer s H vs Q E hr h => ⟨_, body_ok ?_ (by decide) h⟩), hf, F.kp, F.bindsN fun _ _ _ _ _ _ us hl => match us, hl with | [_], _ => rfl⟩, runF_len⟩
  have nd := (sc_law_mark_of).nd
  have hT : (⟨H, none, []⟩ : Base).T = [] := rfl
  exact ((sds_cons (sd_setLcD 1 (own := [("_law_part", 2)]) (ok := blkOk_by (N := ["_law_parts", "_law_marks", "_law_part", "_law_entry"]) (sc := defScope (top 61)) (by decide +kernel)) nd (id_dat (ed_var 0)) (fun _ _ _ _ _ => (gd_name 2 nd)) (fun _ _ _ _ _ => tds_nil) (fun _ _ _ _ _ => (ed_max bt.max (ed_fz (el_add (ed_fz (el_disp (ad_cons ed_int ad_nil))) (ed_fz (el_comp (own := [("_law_entry", 3)]) (ok := blkOk_by (by rfl)) nd (id_dat (ed_var 2)) (fun _ _ _ _ _ => (gd_name 3 nd)) (fun _ _ _ _ _ => tds_one (td_cmp (op2_Eq hr) (ed_ix hr (ed_var 3) ed_int) ed_str)) (fun _ _ _ _ _ => (ed_ix hr (ed_var 3) ed_int)))))))))
      (sds_one (sd_ret (ed_min bt.min (ed_fz (el_add (ed_var 1) (ed_fz (el_disp (ad_cons (ed_bin op2_Pow ed_int ed_int) ad_nil))))))))))
theorem sc_law_draw_queries : FnScope ["_law_source", "_law_columns", "_law_hows", "_law_turn", "_law_sums", "_law_late", "_law_keys", "_law_window", "_law_ahead", "_law_once", "_law_twice", "_law_k"] ["_law_source"] (defScope (top 62)) := ⟨rfl, rfl, rfl, by decide +kernel, rfl, by decide +kernel, by decide +kernel⟩
theorem ds_law_draw_queries {P : Program} {w : World} {K : PySem.W.Frag} {mg : Str → Option Value} {base : Heap} {f : Addr} {fd : FuncData} (F : FnP K "_law_draw_queries" (top 62) f fd) (hf : mg "_law_draw_queries" = some (.ref f)) (bt : Bt mg) (d_law_pick : DS P w K mg base "_law_pick" 1 2 m_law_pick) : DS P w K mg base "_law_draw_queries" 2 1 m_law_draw_queries := by
  refine ⟨⟨f, fd, ["_law_source"], F.ok sc_law_draw_queries (fun vs H Q E h => h.1) (fun cdv A outer s H vs Q E hr h => body_okS (fun sx => ?_) (by decide) h), hf, F.kp, F.bindsN fun _ _ _ _ _ _ us hl => match us, hl with | [_], _ => rfl⟩, runS_len⟩
  have nd := (sc_law_draw_queries).nd
  have hT : (⟨H, some sx, []⟩ : Base).T = [] := rfl
  exact ((sds_cons (sd_parG 1 2 nd (vd_D (ed_tup (ad_cons (ed_tup (ad_cons ed_str (ad_cons ed_str ad_nil))) (ad_cons (ed_tup (ad_cons ed_str (ad_cons ed_str ad_nil))) ad_nil)))) (vd_L (el_disp ad_nil)))
      (sds_cons (sd_for (id_range bt.range (ed_bin op2_Add ed_int (ed_callS hr d_law_pick 0 (ad_cons ed_int ad_nil)))) (gd_name 3 nd) (sds_one (sd_app 2 (ed_tup (ad_cons (ed_ix hr (ed_fz (el_disp (ad_cons ed_str (ad_cons ed_str ad_nil)))) (ed_callS hr d_law_pick 0 (ad_cons ed_int ad_nil))) (ad_cons ed_int ad_nil))))))
      (sds_cons (sd_setV 4 nd (vd_D (ed_tuple bt.tuple (ed_fz (el_comp (own := [("_law_k", 11)]) (ok := blkOk_by (N := ["_law_source", "_law_columns", "_law_hows", "_law_turn", "_law_sums", "_law_late", "_law_keys", "_law_window", "_law_ahead", "_law_once", "_law_twice", "_law_k"]) (sc := defScope (top 62)) (by decide +kernel)) nd (id_range bt.range (ed_len bt.len (ed_var 2))) (fun _ _ _ _ _ => (gd_name 11 nd)) (fun _ _ _ _ _ => tds_nil) (fun _ _ _ _ _ => (ed_tup (ad_cons (ed_ix hr ed_str (ed_var 11)) (ad_cons (ed_ix hr (ed_ix hr (ed_var 2) (ed_var 11)) ed_int) (ad_cons (ed_tup (ad_cons ed_str (ad_cons ed_str ad_nil))) ad_nil))))))))))
      (sds_cons (sd_setV 5 nd (vd_D (ed_tuple bt.tuple (ed_fz (el_comp (own := [("_law_k", 11)]) (ok := blkOk_by (N := ["_law_source", "_law_columns", "_law_hows", "_law_turn", "_law_sums", "_law_late", "_law_keys", "_law_window", "_law_ahead", "_law_once", "_law_twice", "_law_k"]) (sc := defScope (top 62)) (by decide +kernel)) nd (id_range bt.range (ed_len bt.len (ed_var 2))) (fun _ _ _ _ _ => (gd_name 11 nd)) (fun _ _ _ _ _ => tds_nil) (fun _ _ _ _ _ => (ed_tup (ad_cons (ed_ix hr ed_str (ed_var 11)) (ad_cons ed_str (ad_cons (ed_tup (ad_cons ed_str (ad_cons (ed_ix hr ed_str (ed_var 11)) ad_nil))) ad_nil))))))))))
      (sds_cons (sd_par 6 7 nd (vd_D (ed_ix hr (ed_fz (el_disp (ad_cons (ed_tup ad_nil) (ad_cons (ed_tup (ad_cons ed_str ad_nil)) ad_nil)))) (ed_callS hr d_law_pick 0 (ad_cons ed_int ad_nil)))) (vd_D (ed_tup (ad_cons ed_str (ad_cons (ed_bin op2_Add ed_int (ed_callS hr d_law_pick 0 (ad_cons ed_int ad_nil))) ad_nil)))))
      (sds_cons (sd_setV 8 nd (vd_D (ed_tup (ad_cons (ed_tup (ad_cons ed_str (ad_cons (ed_tup (ad_cons ed_str (ad_cons (ed_var 1) ad_nil))) ad_nil))) (ad_cons (ed_tup (ad_cons ed_str (ad_cons (ed_tup (ad_cons ed_str (ad_cons (ed_var 1) ad_nil))) ad_nil))) ad_nil)))))
      (sds_cons (sd_setV 9 nd (vd_D (ed_bin op2_Add (ed_var 8) (ed_tup (ad_cons (ed_tup (ad_cons ed_str (ad_cons (ed_tup (ad_cons ed_str (ad_cons ed_str (ad_cons ed_str ad_nil)))) ad_nil))) (ad_cons (ed_tup (ad_cons ed_str (ad_cons (ed_tup (ad_cons ed_str (ad_cons ed_str (ad_cons (ed_var 6) (ad_cons (ed_var 7) (ad_cons (ed_var 4) ad_nil)))))) ad_nil))) (ad_cons (ed_tup (ad_cons ed_str (ad_cons ed_str ad_nil))) ad_nil)))))))
      (sds_cons (sd_setV 10 nd (vd_D (ed_bin op2_Add (ed_var 8) (ed_tup (ad_cons (ed_tup (ad_cons ed_str (ad_cons (ed_tup (ad_cons ed_str (ad_cons ed_str (ad_cons (ed_var 6) (ad_cons (ed_var 7) (ad_cons (ed_var 4) ad_nil)))))) ad_nil))) (ad_cons (ed_tup (ad_cons ed_str (ad_cons (ed_tup (ad_cons ed_str (ad_cons ed_str (ad_cons (ed_var 6) (ad_cons (ed_var 7) (ad_cons (ed_var 4) ad_nil)))))) ad_nil))) ad_nil))))))
      (sds_cons (sd_setV 10 nd (vd_D (ed_bin op2_Add (ed_var 10) (ed_tup (ad_cons (ed_tup (ad_cons ed_str (ad_cons (ed_tup (ad_cons ed_str (ad_cons ed_str (ad_cons ed_str ad_nil)))) ad_nil))) (ad_cons (ed_tup (ad_cons ed_str (ad_cons (ed_tup (ad_cons ed_str (ad_cons ed_str (ad_cons (ed_var 6) (ad_cons (ed_var 7) (ad_cons (ed_var 5) ad_nil)))))) ad_nil))) (ad_cons (ed_tup (ad_cons ed_str (ad_cons ed_str ad_nil))) ad_nil)))))))
      (sds_one (sd_ret (ed_tup (ad_cons (ed_fz (el_disp (ad_cons (ed_var 9) (ad_cons (ed_var 10) ad_nil)))) (ad_cons (ed_var 6) (ad_cons (ed_var 7) (ad_cons (ed_var 2) ad_nil)))))))))))))))))
end Dl
end
section
set_option Elab.async false
set_option linter.all false
set_option autoImplicit false
set_option maxRecDepth 100000
set_option maxHeartbeats 4000000
/-! LawW: law. -/
namespace Dl
open PySem PySem.Spec PyProof.Rows L2
open LamX (TabB Tabs TabS)
abbrev nLaw : List Str := ["_law_script", "_law_source", "_law_lap", "_law_queries", "_law_keys", "_law_window", "_law_hows", "_law_words", "_law_rows", "_law_parts", "_law_told", "_law_mark", "_law_every", "_law_due", "_law_how", "_law_k", "_law_turn", "_law_some", "_law_query"]
theorem sc_law : FnScope nLaw ["_law_script"] (defScope (top 63)) := ⟨rfl, rfl, rfl, by decide +kernel, rfl, by decide +kernel, by decide +kernel⟩
def spLaw (K : PySem.W.Frag) (Pt : Addr) : Sp := fun vs H Q _ => vs.length = 1 ∧ ∃ (l : Addr) (ns : List Int), vs = [.ref l] ∧ SqL K H l (ns.map V.int) ∧ ns.length ≤ 63 ∧ H Pt = some (.tbl #[]) ∧ m_law ns = some (.bool true) ∧ ∀ H', Q (.bl true) H'
theorem pss_ex {X : Cx} {T : List (Addr × Str)} {sts : List Stmt} {g : G} (h : ∀ B : Base, B.T = T → SDs B X sts g) : PSs X sts (fun D σ H => ∃ B : Base, B.T = T ∧ tSD B X g D σ H) := ⟨fun pins s σ H D I ⟨B, hB, hh⟩ => (h B hB).pss.run pins s σ H D I hh⟩
theorem law_rep {P : Program} {w : World} {H : Hp} {l a c Pt : Addr} {S : Src} (ht : H Pt = some (.tbl #[])) (hs : SrcAt H a c S) : Rep P w ⟨H, some (a, c), [(Pt, lamQ)]⟩ H ((L2.start nLaw [.ref l]).set 1 (some (.ref a))) (lawE S) := by
  have sl : ∀ (i : Nat) (s : Sl), (lawE S).sl[i]? = some s → s = .un ∨ (i = 1 ∧ s = .src) := fun i s h => by
    match i, h with
    | 0, h => exact .inl (Option.some.inj h).symm
    | 1, h => exact .inr ⟨rfl, (Option.some.inj h).symm⟩
    | n + 2, h =>
      have h : (List.replicate 17 Sl.un)[n]? = some s := h
      exact .inl (List.eq_of_mem_replicate (List.mem_of_getElem? h))
  have no : ∀ (i : Nat) (s : Sl), (lawE S).sl[i]? = some s → s.own = true → False := fun i s h o => by
    rcases sl i s h with rfl | ⟨_, rfl⟩ <;> cases o
  refine ⟨⟨fun b x h _ _ => h, fun b h => h, fun p hp => ?_, .inr ⟨a, c, S, rfl, rfl, hs⟩⟩, rfl, fun i s h => ?_, fun i j s t b h1 h2 => (no i s h1 h2).elim, fun b ⟨i, s, h1, h2, _⟩ => (no i s h1 h2).elim⟩
  · rw [List.mem_singleton.mp hp]
    exact TabS.nil ht
  · rcases sl i s h with rfl | ⟨rfl, rfl⟩
    · exact True.intro
    · exact ⟨a, c, rfl, rfl⟩
theorem ok_law {P : Program} {w : World} {K : PySem.W.Frag} {mg : Str → Option Value} {base : Heap} {f fo Pt : Addr} {fd fdo : FuncData} (F : FnP K "law" (top 63) f fd) (bt : Bt mg) (Fo : FnOk P w K mg base CX0 1 fo fdo ["_law_script"] (spOpen K)) (mo : mg "_law_open_cells" = some (.ref fo)) (ko : PySem.W.keepIn K (.ref fo) = true) (bo : L2.Binds K fdo ["_law_script"] []) (d_law_draw_queries : DS P w K mg base "_law_draw_queries" 2 1 m_law_draw_queries) (d_can_part : DD P w K mg base "can_part" 1 [] 1 m_can_part) (d_second_hows : DD P w K mg base "second_hows" 1 [] 1 m_second_hows) (d_law_draw_rows : DS P w K mg base "_law_draw_rows" 2 3 m_law_draw_rows) (d_law_pick : DS P w K mg base "_law_pick" 1 2 m_law_pick) (d_law_draw_entries : DS P w K mg base "_law_draw_entries" 4 2 m_law_draw_entries) (d_law_mark_of : DD P w K mg base "_law_mark_of" 1 [] 1 m_law_mark_of) (d_law_bag : DD P w K mg base "_law_bag" 1 [] 1 m_law_bag) (d_law_sum_rows : DD P w K mg base "_law_sum_rows" 7 [] 5 m_law_sum_rows) (d_marks_of : DD P w K mg base "marks_of" 3 [] 2 m_marks_of) (d_meaning : DD P w K mg base "meaning" 9 [(Pt, lamQ)] 2 m_meaning) (d_whole : DD P w K mg base "whole" 10 [(Pt, lamQ)] 2 m_whole) : FnOk P w K mg base CX0 11 f fd ["_law_script"] (spLaw K Pt) := by
  refine F.ok sc_law (fun vs H Q E h => h.1) (fun cdv A outer s H vs Q E hr h => ?_)
  have nd := sc_law.nd
  obtain ⟨hl, l, ns, rfl, hs, hn, ht, hm, k⟩ := h
  refine ⟨_, PSs.nox (pss_cons (ps_set (i := 1) nd rfl (.inr rfl) (pe_call (E := E0) Fo (hr.mono (by decide)) rfl mo ko bo .nil pass0 (pa_cons (pe_var (i := 0) rfl (.inl rfl)) pa_nil) (by decide) rfl rfl)) (pss_ex (g := g_law) (T := [(Pt, lamQ)]) fun B hB => ?_)), ?_⟩
  rotate_left
  · refine ⟨.ref l, rfl, ⟨rfl, l, ns, rfl, hs, hn, fun H1 a c sm _ _ src => ?_⟩⟩
    unfold m_law at hm
    obtain ⟨⟨fl, ρ'⟩, h1, h2⟩ := bind2 hm
    cases fl with
    | ret d =>
      cases Option.some.inj h2
      refine ⟨⟨H1, some (a, c), [(Pt, lamQ)]⟩, rfl, _, _, _, law_rep (sm _ _ ht) src, h1, (fun _ _ h => h.elim), (fun v H2 q => ?_), (fun _ _ h => h.elim), (fun _ _ h => h.elim)⟩
      have e := q.2.2.2
      cases e
      exact k H2
    | _ => cases h2
  exact ((sds_cons (sd_for (id_range bt.range ed_int) (gd_name 2 nd) (sds_cons (sd_set (gd_tup (gds_cons (gd_name 3 nd) (gds_cons (gd_name 4 nd) (gds_cons (gd_name 5 nd) (gds_cons (gd_name 6 nd) gds_nil))))) (ed_callS hr d_law_draw_queries 1 ad_nil))
      (sds_cons (sd_setV 7 nd (vd_D (ed_tuple bt.tuple (ed_fz (el_comp (own := [("_law_how", 14), ("_law_k", 15)]) (ok := blkOk_by (N := ["_law_script", "_law_source", "_law_lap", "_law_queries", "_law_keys", "_law_window", "_law_hows", "_law_words", "_law_rows", "_law_parts", "_law_told", "_law_mark", "_law_every", "_law_due", "_law_how", "_law_k", "_law_turn", "_law_some", "_law_query"]) (sc := defScope (top 63)) (by decide +kernel)) nd (id_dat (ed_var 6)) (fun _ _ _ _ _ => (gd_tup (gds_cons (gd_name 14 nd) (gds_cons (gd_name 15 nd) gds_nil)))) (fun _ _ _ _ _ => tds_nil) (fun _ _ _ _ _ => (ed_var 14)))))))
      (sds_cons (sd_if (wd_td (wd_or (td_cmp op2_IsNot (ed_call hr d_can_part (ad_cons (ed_var 7) ad_nil)) ed_bool) (wd_or1 (td_cmp (op2_Ne hr) (ed_call hr d_second_hows (ad_cons (ed_var 7) ad_nil)) (ed_bin op2_Mul (ed_tup (ad_cons ed_str ad_nil)) (ed_len bt.len (ed_var 6))))))) (sds_one (sd_ret ed_bool)) sds_nil)
      (sds_cons (sd_setLcD 8 (own := [("_law_turn", 16)]) (ok := blkOk_by (N := ["_law_script", "_law_source", "_law_lap", "_law_queries", "_law_keys", "_law_window", "_law_hows", "_law_words", "_law_rows", "_law_parts", "_law_told", "_law_mark", "_law_every", "_law_due", "_law_how", "_law_k", "_law_turn", "_law_some", "_law_query"]) (sc := defScope (top 63)) (by decide +kernel)) nd (id_range bt.range ed_int) (fun _ _ _ _ _ => (gd_name 16 nd)) (fun _ _ _ _ _ => tds_nil) (fun _ _ _ _ _ => (ed_callS hr d_law_draw_rows 1 (ad_cons (ed_callS hr d_law_pick 1 (ad_cons ed_int ad_nil)) (ad_cons ed_int ad_nil)))))
      (sds_cons (sd_setLcD 9 (own := [("_law_some", 17)]) (ok := blkOk_by (N := ["_law_script", "_law_source", "_law_lap", "_law_queries", "_law_keys", "_law_window", "_law_hows", "_law_words", "_law_rows", "_law_parts", "_law_told", "_law_mark", "_law_every", "_law_due", "_law_how", "_law_k", "_law_turn", "_law_some", "_law_query"]) (sc := defScope (top 63)) (by decide +kernel)) nd (id_dat (ed_var 8)) (fun _ _ _ _ _ => (gd_name 17 nd)) (fun _ _ _ _ _ => tds_nil) (fun _ _ _ _ _ => (ed_callS hr d_law_draw_entries 1 (ad_cons (ed_var 17) ad_nil))))
      (sds_cons (sd_setV 10 nd (vd_D (ed_disp (dp_cons (ed_tup (ad_cons (ed_ix hr (ed_var 9) ed_int) (ad_cons (ed_ix hr (ed_var 9) ed_int) ad_nil))) (dp_cons (ed_tup (ad_cons (ed_ix hr (ed_var 9) ed_int) ad_nil)) dp_nil)))))
      (sds_cons (sd_par 11 12 nd (vd_D (ed_min2 bt.min (ed_call hr d_law_mark_of (ad_cons (ed_ix hr (ed_var 10) ed_str) ad_nil)) (ed_call hr d_law_mark_of (ad_cons (ed_ix hr (ed_var 10) ed_str) ad_nil)))) (vd_D (ed_fz (el_add (ed_fz (el_add (ed_ix hr (ed_var 8) ed_int) (ed_ix hr (ed_var 8) ed_int))) (ed_ix hr (ed_var 8) ed_int)))))
      (sds_cons (sd_setV 13 nd (vd_D (ed_call hr d_law_bag (ad_cons (ed_call hr d_law_sum_rows (ad_cons (ed_var 12) (ad_cons (ed_fz (el_rep (el_disp (ad_cons ed_int ad_nil)) (ed_len bt.len (ed_var 4)))) (ad_cons (ed_var 5) (ad_cons (ed_var 6) (ad_cons (ed_var 11) ad_nil)))))) ad_nil))))
      (sds_cons (sd_if (td_cmp (op2_Ne hr) (ed_fz (el_comp (own := [("_law_query", 18)]) (ok := blkOk_by (N := ["_law_script", "_law_source", "_law_lap", "_law_queries", "_law_keys", "_law_window", "_law_hows", "_law_words", "_law_rows", "_law_parts", "_law_told", "_law_mark", "_law_every", "_law_due", "_law_how", "_law_k", "_law_turn", "_law_some", "_law_query"]) (sc := defScope (top 63)) (by decide +kernel)) nd (id_dat (ed_var 3)) (fun _ _ _ _ _ => (gd_name 18 nd)) (fun _ _ _ _ _ => tds_nil) (fun _ _ _ _ _ => (ed_ix hr (ed_call hr d_marks_of (ad_cons (ed_var 18) (ad_cons (ed_var 10) ad_nil))) ed_str)))) (ed_fz (el_disp (ad_cons (ed_var 11) (ad_cons (ed_var 11) ad_nil))))) (sds_one (sd_ret ed_bool)) sds_nil)
      (sds_cons (sd_if (td_cmp (op2_bags hr) (ed_fz (el_comp (own := [("_law_query", 18)]) (ok := blkOk_by (N := ["_law_script", "_law_source", "_law_lap", "_law_queries", "_law_keys", "_law_window", "_law_hows", "_law_words", "_law_rows", "_law_parts", "_law_told", "_law_mark", "_law_every", "_law_due", "_law_how", "_law_k", "_law_turn", "_law_some", "_law_query"]) (sc := defScope (top 63)) (by decide +kernel)) nd (id_dat (ed_var 3)) (fun _ _ _ _ _ => (gd_name 18 nd)) (fun _ _ _ _ _ => tds_nil) (fun _ _ _ _ _ => (ed_call hr d_meaning (ad_cons (ed_var 18) (ad_cons (ed_var 10) ad_nil)) (hT := .inr hB.symm))))) (ed_fz (el_disp (ad_cons (ed_var 13) (ad_cons (ed_var 13) ad_nil))))) (sds_one (sd_ret ed_bool)) sds_nil)
      (sds_cons (sd_setV 13 nd (vd_D (ed_call hr d_law_bag (ad_cons (ed_call hr d_law_sum_rows (ad_cons (ed_var 12) (ad_cons (ed_fz (el_rep (el_disp (ad_cons ed_int ad_nil)) (ed_len bt.len (ed_var 4)))) (ad_cons (ed_var 5) (ad_cons (ed_var 6) (ad_cons (ed_bin op2_Pow ed_int ed_int) ad_nil)))))) ad_nil))))
      (sds_one (sd_if (td_cmp (op2_bags hr) (ed_fz (el_comp (own := [("_law_query", 18)]) (ok := blkOk_by (N := ["_law_script", "_law_source", "_law_lap", "_law_queries", "_law_keys", "_law_window", "_law_hows", "_law_words", "_law_rows", "_law_parts", "_law_told", "_law_mark", "_law_every", "_law_due", "_law_how", "_law_k", "_law_turn", "_law_some", "_law_query"]) (sc := defScope (top 63)) (by decide +kernel)) nd (id_dat (ed_var 3)) (fun _ _ _ _ _ => (gd_name 18 nd)) (fun _ _ _ _ _ => tds_nil) (fun _ _ _ _ _ => (ed_call hr d_whole (ad_cons (ed_var 18) (ad_cons (ed_var 10) ad_nil)) (hT := .inr hB.symm))))) (ed_fz (el_disp (ad_cons (ed_var 13) (ad_cons (ed_var 13) ad_nil))))) (sds_one (sd_ret ed_bool)) sds_nil))))))))))))))
      (sds_one (sd_ret (ed_and (ed_cmp op2_Is (ed_call hr d_can_part (ad_cons (ed_tup (ad_cons ed_str (ad_cons ed_str ad_nil))) ad_nil)) ed_bool) (ed_cmp op2_Is (ed_call hr d_can_part (ad_cons (ed_tup (ad_cons ed_str ad_nil)) ad_nil)) ed_bool))))))
end Dl
end
section
set_option Elab.async false
set_option linter.all false
set_option autoImplicit false
set_option maxRecDepth 100000
set_option maxHeartbeats 4000000
/-! Facts: what the head must tell, the end. -/
namespace Dl
open PySem PySem.Spec PyProof.Rows L2
open LamX (TabB Tabs TabS LawAtS law_callTs)
/-- the text's def x stands behind the top -/
def Has (K : PySem.W.Frag) (x : String) (st : Stmt) : Prop := ∃ (f : Addr) (oc : Value) (od : Option Addr) (kV dc pm : Value) (an : Option Addr) (cd ct : Value) (sl : Array (Option Value)),
  PySem.W.nsIn K mainGlobals x = some (some (.ref f)) ∧ K.lookup f = some ⟨oc, od, .func (PySem.W.fnOf x x (defArgs st) (defBody st) (defScope st) .none kV dc pm an cd ct), sl⟩ ∧ PySem.W.codeIn K cd x = true ∧ PySem.W.keepIn K (.ref f) = true
def HasT (K : PySem.W.Frag) (x : String) (st : Stmt) (c Pt : Addr) : Prop := ∃ (f : Addr) (oc : Value) (od : Option Addr) (kV dc pm : Value) (an : Option Addr) (ct : Value) (sl : Array (Option Value)),
  PySem.W.nsIn K mainGlobals x = some (some (.ref f)) ∧ K.lookup f = some ⟨oc, od, .func (PySem.W.fnOf x x (defArgs st) (defBody st) (defScope st) .none kV dc pm an (.ref c) ct), sl⟩ ∧ PySem.W.codeIn K (.ref c) x = true ∧ PySem.W.keepIn K (.ref f) = true ∧ PySem.W.codeHdIn K c Pt = true ∧ K.lookup Pt = none
theorem has_mk {K : PySem.W.Frag} {x : String} {st : Stmt} {f : Addr} {oc : Value} {od : Option Addr} {kV dc pm : Value} {an : Option Addr} {cd ct : Value} {sl : Array (Option Value)} (a1 : PySem.W.nsIn K mainGlobals x = some (some (.ref f))) (a2 : K.lookup f = some ⟨oc, od, .func (PySem.W.fnOf x x (defArgs st) (defBody st) (defScope st) .none kV dc pm an cd ct), sl⟩) (a3 : PySem.W.codeIn K cd x = true) (a4 : PySem.W.keepIn K (.ref f) = true) : Has K x st :=
  ⟨f, oc, od, kV, dc, pm, an, cd, ct, sl, a1, a2, a3, a4⟩
theorem hasT_mk {K : PySem.W.Frag} {x : String} {st : Stmt} {c Pt f : Addr} {oc : Value} {od : Option Addr} {kV dc pm : Value} {an : Option Addr} {ct : Value} {sl : Array (Option Value)} (a1 : PySem.W.nsIn K mainGlobals x = some (some (.ref f))) (a2 : K.lookup f = some ⟨oc, od, .func (PySem.W.fnOf x x (defArgs st) (defBody st) (defScope st) .none kV dc pm an (.ref c) ct), sl⟩) (a3 : PySem.W.codeIn K (.ref c) x = true) (a4 : PySem.W.keepIn K (.ref f) = true) (a5 : PySem.W.codeHdIn K c Pt = true) (a6 : K.lookup Pt = none) : ∃ c, HasT K x st c Pt :=
  ⟨c, f, oc, od, kV, dc, pm, an, ct, sl, a1, a2, a3, a4, a5, a6⟩
section
variable {K : PySem.W.Frag} {h : Heap} {mg : Str → Option Value} {st : Stmt} {x : String}
theorem Has.get (X : K.In h) (G : h.Ns mainGlobals mg) (a : Has K x st) : ∃ f fd, mg (x : Str) = some (.ref f) ∧ FnP K x st f fd := by
  obtain ⟨f, oc, od, kV, dc, pm, an, cd, ct, sl, a1, a2, a3, a4⟩ := a
  exact ⟨f, _, PySem.W.mg_of X G a1, ⟨⟨oc, od, .none, kV, dc, pm, an, cd, ct, sl, rfl, a2, a3, .inl ⟨rfl, rfl⟩, .inl rfl⟩, a4⟩⟩
theorem HasT.get {c Pt : Addr} (X : K.In h) (G : h.Ns mainGlobals mg) (a : HasT K x st c Pt) : ∃ f fd, mg (x : Str) = some (.ref f) ∧ FnP K x st f fd ∧ fd.code = .ref c ∧ PySem.W.CodeHd h c Pt ∧ K.lookup Pt = none := by
  obtain ⟨f, oc, od, kV, dc, pm, an, ct, sl, a1, a2, a3, a4, a5, a6⟩ := a
  exact ⟨f, _, PySem.W.mg_of X G a1, ⟨⟨oc, od, .none, kV, dc, pm, an, .ref c, ct, sl, rfl, a2, a3, .inl ⟨rfl, rfl⟩, .inl rfl⟩, a4⟩, rfl, PySem.W.codeHd_of_K X a5, a6⟩
end
/-- the built-ins' names are free -/
def FreeB (K : PySem.W.Frag) : Prop := ∀ x ∈ (["len", "sum", "all", "tuple", "int", "dict", "max", "min", "isinstance", "str", "range", "enumerate", "list", "sorted", "set", "abs"] : List String), PySem.W.nsIn K mainGlobals x = some none
theorem bt_of {K : PySem.W.Frag} {h : Heap} {mg : Str → Option Value} (X : K.In h) (G : h.Ns mainGlobals mg) (b : FreeB K) (e : ∃ t, mg "END" = some (.int 1000000000 t)) : Bt mg := by
  have g : ∀ x, x ∈ (["len", "sum", "all", "tuple", "int", "dict", "max", "min", "isinstance", "str", "range", "enumerate", "list", "sorted", "set", "abs"] : List String) → mg (x : Str) = none := fun x hx => PySem.W.mg_none_of X G (b x hx)
  exact ⟨g _ (by decide), g _ (by decide), g _ (by decide), g _ (by decide), g _ (by decide), g _ (by decide), g _ (by decide), g _ (by decide), g _ (by decide), g _ (by decide), g _ (by decide), g _ (by decide), g _ (by decide), g _ (by decide), g _ (by decide), g _ (by decide), e⟩
/-- the end, with what is known of the loose names -/
theorem walk_endX {l : PySem.W.OpenLaw} {n k : Nat} {q : Program} {loose : List Str} {XP : (Str → Option Value) → Heap → Prop} {YP : World → Heap → Prop} {d : DefRec} {K : Params → PySem.W.Frag} {x : Str} (h1 : l.most = some n) (h2 : n ≤ sizeLine) (h3 : d.params.defaults = []) (h4 : Room k callerA) (h5 : ∀ (w : World) (h : Heap), YP w h → (K w.params).In h)
    (F : ∀ (w : World) (mg : Str → Option Value) (fa : Addr) (h : Heap), YP w h → XP mg h → (K w.params).In h → h.Ns mainGlobals mg → mg d.name = some (.ref fa) → LawAtS l w (K w.params) CX0 k n x mg fa h) : PySem.W.WalkO q loose XP YP l.row.toRowW d [] (fun f vs => PySem.call f vs) := by
  refine Att.attach_callB h1 h3 fun w s0 s1 mg mb fa o pm cd doc a vs ns G Y ho hd hcd hmg hobj hints hlen hbits hg => ?_
  have X := h5 w _ Y
  obtain ⟨fd, cs, sp, a1, a2, a3, a4, a5, a6⟩ := F w mg fa _ Y G.X X G.T.g hmg
  exact law_callTs X G.T.g G.T.b G.T.builtins G.T.nolimit hg a1 a2 a3 G.T.bmain hobj hints (Nat.le_trans hlen h2) h4 a6 a4 (fun H hH hS => a5 H a ns hlen hbits hH hS) fun _ _ _ z => z
end Dl
end
section
set_option Elab.async false
set_option linter.all false
set_option autoImplicit false
set_option maxRecDepth 100000
set_option maxHeartbeats 4000000
/-! All: from the head's facts to the law (printed by gen_all.py). -/
namespace Dl
open PySem PySem.Spec PyProof.Rows L2
open LamX (TabB LawAtS)
theorem all_law {l : PySem.W.OpenLaw} {w : World} {K : PySem.W.Frag} {h : Heap} {mg : Str → Option Value} {fa Pt : Addr} (X : K.In h) (G : h.Ns mainGlobals mg) (hfa : mg "law" = some (.ref fa)) (plain : ∀ ns : List Int, ns.length ≤ 63 → Dl.m_law ns = some (.bool true)) (tab : h.get? Pt = some { cls := .none, data := .fields #[] }) (fb : FreeB K) (he : ∃ t, mg "END" = some (.int 1000000000 t))
    (a_law_open_cells : Has K "_law_open_cells" (top 47))
    (a_law_pick : Has K "_law_pick" (top 48))
    (a_law_draw_queries : Has K "_law_draw_queries" (top 62))
    (a_can_part : Has K "can_part" (top 6))
    (a_second_hows : Has K "second_hows" (top 7))
    (a_law_draw_rows : Has K "_law_draw_rows" (top 58))
    (a_law_any_order : Has K "_law_any_order" (top 49))
    (a_law_draw_marks : Has K "_law_draw_marks" (top 59))
    (a_law_draw_entries : Has K "_law_draw_entries" (top 60))
    (a_law_mark_of : Has K "_law_mark_of" (top 61))
    (a_law_bag : Has K "_law_bag" (top 46))
    (a_law_windows_at : Has K "_law_windows_at" (top 54))
    (a_law_tell : Has K "_law_tell" (top 52))
    (a_law_tally : Has K "_law_tally" (top 51))
    (a_law_sums_of : Has K "_law_sums_of" (top 56))
    (a_law_rank : Has K "_law_rank" (top 45))
    (a_law_ranks : Has K "_law_ranks" (top 50))
    (a_law_given_rank : Has K "_law_given_rank" (top 53))
    (a_law_sum_rows : Has K "_law_sum_rows" (top 57))
    (a_mark_of : Has K "mark_of" (top 28))
    (a_made_of : Has K "made_of" (top 19))
    (a_step_of : Has K "step_of" (top 22))
    (a_steps_ahead : Has K "steps_ahead" (top 24))
    (a_marks_of : Has K "marks_of" (top 29))
    (a_bag_of : Has K "bag_of" (top 10))
    (a_columns_made : Has K "columns_made" (top 21))
    (a_columns_of : Has K "columns_of" (top 23))
    (a_late_of : Has K "late_of" (top 30))
    (a_of_source : Has K "of_source" (top 31))
    (a_worths_of : Has K "worths_of" (top 33))
    (a_by_keys : Has K "by_keys" (top 34))
    (a_spans_of : Has K "spans_of" (top 35))
    (a_in_windows : Has K "in_windows" (top 36))
    (a_summed : Has K "summed" (top 37))
    (a_worth_at : Has K "worth_at" (top 15))
    (a_worth : Has K "worth" (top 16))
    (a_together : Has K "together" (top 32))
    (a_sums_of : Has K "sums_of" (top 38))
    (a_of_step : Has K "of_step" (top 40))
    (a_out_of : Has K "out_of" (top 25))
    (a_rank : Has K "rank" (top 2))
    (a_ranks : Has K "ranks" (top 3))
    (a_place_of : Has K "place_of" (top 9))
    (a_rows_with_lots : ∃ c, HasT K "rows_with_lots" (top 41) c Pt)
    (a_meaning : Has K "meaning" (top 42))
    (a_whole : Has K "whole" (top 43))
    (a_law : Has K "law" (top 63)) : LawAtS l w K CX0 11 63 "_law_script" mg fa h := by
  have bt := bt_of X G fb he
  obtain ⟨f_law_open_cells, fd_law_open_cells, m_law_open_cells, F_law_open_cells⟩ := a_law_open_cells.get X G
  obtain ⟨f_law_pick, fd_law_pick, m_law_pick, F_law_pick⟩ := a_law_pick.get X G
  obtain ⟨f_law_draw_queries, fd_law_draw_queries, m_law_draw_queries, F_law_draw_queries⟩ := a_law_draw_queries.get X G
  obtain ⟨f_can_part, fd_can_part, m_can_part, F_can_part⟩ := a_can_part.get X G
  obtain ⟨f_second_hows, fd_second_hows, m_second_hows, F_second_hows⟩ := a_second_hows.get X G
  obtain ⟨f_law_draw_rows, fd_law_draw_rows, m_law_draw_rows, F_law_draw_rows⟩ := a_law_draw_rows.get X G
  obtain ⟨f_law_any_order, fd_law_any_order, m_law_any_order, F_law_any_order⟩ := a_law_any_order.get X G
  obtain ⟨f_law_draw_marks, fd_law_draw_marks, m_law_draw_marks, F_law_draw_marks⟩ := a_law_draw_marks.get X G
  obtain ⟨f_law_draw_entries, fd_law_draw_entries, m_law_draw_entries, F_law_draw_entries⟩ := a_law_draw_entries.get X G
  obtain ⟨f_law_mark_of, fd_law_mark_of, m_law_mark_of, F_law_mark_of⟩ := a_law_mark_of.get X G
  obtain ⟨f_law_bag, fd_law_bag, m_law_bag, F_law_bag⟩ := a_law_bag.get X G
  obtain ⟨f_law_windows_at, fd_law_windows_at, m_law_windows_at, F_law_windows_at⟩ := a_law_windows_at.get X G
  obtain ⟨f_law_tell, fd_law_tell, m_law_tell, F_law_tell⟩ := a_law_tell.get X G
  obtain ⟨f_law_tally, fd_law_tally, m_law_tally, F_law_tally⟩ := a_law_tally.get X G
  obtain ⟨f_law_sums_of, fd_law_sums_of, m_law_sums_of, F_law_sums_of⟩ := a_law_sums_of.get X G
  obtain ⟨f_law_rank, fd_law_rank, m_law_rank, F_law_rank⟩ := a_law_rank.get X G
  obtain ⟨f_law_ranks, fd_law_ranks, m_law_ranks, F_law_ranks⟩ := a_law_ranks.get X G
  obtain ⟨f_law_given_rank, fd_law_given_rank, m_law_given_rank, F_law_given_rank⟩ := a_law_given_rank.get X G
  obtain ⟨f_law_sum_rows, fd_law_sum_rows, m_law_sum_rows, F_law_sum_rows⟩ := a_law_sum_rows.get X G
  obtain ⟨f_mark_of, fd_mark_of, m_mark_of, F_mark_of⟩ := a_mark_of.get X G
  obtain ⟨f_made_of, fd_made_of, m_made_of, F_made_of⟩ := a_made_of.get X G
  obtain ⟨f_step_of, fd_step_of, m_step_of, F_step_of⟩ := a_step_of.get X G
  obtain ⟨f_steps_ahead, fd_steps_ahead, m_steps_ahead, F_steps_ahead⟩ := a_steps_ahead.get X G
  obtain ⟨f_marks_of, fd_marks_of, m_marks_of, F_marks_of⟩ := a_marks_of.get X G
  obtain ⟨f_bag_of, fd_bag_of, m_bag_of, F_bag_of⟩ := a_bag_of.get X G
  obtain ⟨f_columns_made, fd_columns_made, m_columns_made, F_columns_made⟩ := a_columns_made.get X G
  obtain ⟨f_columns_of, fd_columns_of, m_columns_of, F_columns_of⟩ := a_columns_of.get X G
  obtain ⟨f_late_of, fd_late_of, m_late_of, F_late_of⟩ := a_late_of.get X G
  obtain ⟨f_of_source, fd_of_source, m_of_source, F_of_source⟩ := a_of_source.get X G
  obtain ⟨f_worths_of, fd_worths_of, m_worths_of, F_worths_of⟩ := a_worths_of.get X G
  obtain ⟨f_by_keys, fd_by_keys, m_by_keys, F_by_keys⟩ := a_by_keys.get X G
  obtain ⟨f_spans_of, fd_spans_of, m_spans_of, F_spans_of⟩ := a_spans_of.get X G
  obtain ⟨f_in_windows, fd_in_windows, m_in_windows, F_in_windows⟩ := a_in_windows.get X G
  obtain ⟨f_summed, fd_summed, m_summed, F_summed⟩ := a_summed.get X G
  obtain ⟨f_worth_at, fd_worth_at, m_worth_at, F_worth_at⟩ := a_worth_at.get X G
  obtain ⟨f_worth, fd_worth, m_worth, F_worth⟩ := a_worth.get X G
  obtain ⟨f_together, fd_together, m_together, F_together⟩ := a_together.get X G
  obtain ⟨f_sums_of, fd_sums_of, m_sums_of, F_sums_of⟩ := a_sums_of.get X G
  obtain ⟨f_of_step, fd_of_step, m_of_step, F_of_step⟩ := a_of_step.get X G
  obtain ⟨f_out_of, fd_out_of, m_out_of, F_out_of⟩ := a_out_of.get X G
  obtain ⟨f_rank, fd_rank, m_rank, F_rank⟩ := a_rank.get X G
  obtain ⟨f_ranks, fd_ranks, m_ranks, F_ranks⟩ := a_ranks.get X G
  obtain ⟨f_place_of, fd_place_of, m_place_of, F_place_of⟩ := a_place_of.get X G
  obtain ⟨c, a_rows_with_lots⟩ := a_rows_with_lots
  obtain ⟨f_rows_with_lots, fd_rows_with_lots, m_rows_with_lots, F_rows_with_lots, hc_rows_with_lots, hd_rows_with_lots, hp_rows_with_lots⟩ := a_rows_with_lots.get X G
  obtain ⟨f_meaning, fd_meaning, m_meaning, F_meaning⟩ := a_meaning.get X G
  obtain ⟨f_whole, fd_whole, m_whole, F_whole⟩ := a_whole.get X G
  obtain ⟨f_law, fd_law, m_law, F_law⟩ := a_law.get X G
  have e := hfa.symm.trans m_law
  cases e
  have bo := F_law_open_cells.bindsN (ps := ["_law_script"]) fun _ _ _ _ _ _ us hl => match us, hl with | [_], _ => rfl
  have bl := FunD.bindsA (ps := ["_law_script"]) F_law fun _ _ _ _ _ _ us hl => match us, hl with | [_], _ => rfl
  refine ⟨fd_law, [(c, Pt)], spLaw K Pt, fun p hp => by rw [List.mem_singleton.mp hp]; exact tab, fun p hp => by rw [List.mem_singleton.mp hp]; exact hp_rows_with_lots, fun p hp => by rw [List.mem_singleton.mp hp]; exact hd_rows_with_lots, fun s v => bl s [v] rfl, fun H a ns hl _ ht hs => ⟨rfl, a, ns, rfl, hs, hl, ht (c, Pt) (.head _), plain ns hl, fun _ => rfl⟩, fun base _ _ tb => ?_⟩
  have TB : TabB base mg c Pt := tb (c, Pt) (.head _)
  have Fo := ok_open (P := l.prog) (w := w) (base := base) F_law_open_cells bt
  have d_law_pick := ds_law_pick (P := l.prog) (w := w) (base := base) F_law_pick m_law_pick bt
  have d_law_draw_queries := ds_law_draw_queries (P := l.prog) (w := w) (base := base) F_law_draw_queries m_law_draw_queries bt d_law_pick
  have d_can_part := dd_can_part (P := l.prog) (w := w) (base := base) F_can_part m_can_part bt 
  have d_second_hows := dd_second_hows (P := l.prog) (w := w) (base := base) F_second_hows m_second_hows bt 
  have d_law_draw_rows := ds_law_draw_rows (P := l.prog) (w := w) (base := base) F_law_draw_rows m_law_draw_rows bt d_law_pick
  have d_law_any_order := ds_law_any_order (P := l.prog) (w := w) (base := base) F_law_any_order m_law_any_order bt d_law_pick
  have d_law_draw_marks := ds_law_draw_marks (P := l.prog) (w := w) (base := base) F_law_draw_marks m_law_draw_marks bt d_law_any_order d_law_pick
  have d_law_draw_entries := ds_law_draw_entries (P := l.prog) (w := w) (base := base) F_law_draw_entries m_law_draw_entries bt d_law_draw_marks
  have d_law_mark_of := dd_law_mark_of (P := l.prog) (w := w) (base := base) F_law_mark_of m_law_mark_of bt 
  have d_law_bag := dd_law_bag (P := l.prog) (w := w) (base := base) F_law_bag m_law_bag bt 
  have d_law_windows_at := dd_law_windows_at (P := l.prog) (w := w) (base := base) F_law_windows_at m_law_windows_at bt 
  have d_law_tell := dd_law_tell (P := l.prog) (w := w) (base := base) F_law_tell m_law_tell bt 
  have d_law_tally := dd_law_tally (P := l.prog) (w := w) (base := base) F_law_tally m_law_tally bt 
  have d_law_sums_of := dd_law_sums_of (P := l.prog) (w := w) (base := base) F_law_sums_of m_law_sums_of bt d_law_tell d_law_tally
  have d_law_rank := dd_law_rank (P := l.prog) (w := w) (base := base) F_law_rank m_law_rank bt 
  have d_law_ranks := dd_law_ranks (P := l.prog) (w := w) (base := base) F_law_ranks m_law_ranks bt d_law_rank
  have d_law_given_rank := dd_law_given_rank (P := l.prog) (w := w) (base := base) F_law_given_rank m_law_given_rank bt d_law_ranks
  have d_law_sum_rows := dd_law_sum_rows (P := l.prog) (w := w) (base := base) F_law_sum_rows m_law_sum_rows bt d_law_windows_at d_law_sums_of d_law_given_rank
  have d_mark_of := dd_mark_of (P := l.prog) (w := w) (base := base) F_mark_of m_mark_of bt 
  have d_made_of := dd_made_of (P := l.prog) (w := w) (base := base) F_made_of m_made_of bt 
  have d_step_of := dd_step_of (P := l.prog) (w := w) (base := base) F_step_of m_step_of bt 
  have d_steps_ahead := dd_steps_ahead (P := l.prog) (w := w) (base := base) F_steps_ahead m_steps_ahead bt d_made_of d_step_of
  have d_marks_of := dd_marks_of (P := l.prog) (w := w) (base := base) F_marks_of m_marks_of bt d_mark_of d_steps_ahead
  have d_bag_of := dd_bag_of (P := l.prog) (w := w) (base := base) F_bag_of m_bag_of bt 
  have d_columns_made := dd_columns_made (P := l.prog) (w := w) (base := base) F_columns_made m_columns_made bt 
  have d_columns_of := dd_columns_of (P := l.prog) (w := w) (base := base) F_columns_of m_columns_of bt d_columns_made
  have d_late_of := dd_late_of (P := l.prog) (w := w) (base := base) F_late_of m_late_of bt 
  have d_of_source := dd_of_source (P := l.prog) (w := w) (base := base) F_of_source m_of_source bt d_late_of
  have d_worths_of := dd_worths_of (P := l.prog) (w := w) (base := base) F_worths_of m_worths_of bt 
  have d_by_keys := dd_by_keys (P := l.prog) (w := w) (base := base) F_by_keys m_by_keys bt d_worths_of
  have d_spans_of := dd_spans_of (P := l.prog) (w := w) (base := base) F_spans_of m_spans_of bt 
  have d_in_windows := dd_in_windows (P := l.prog) (w := w) (base := base) F_in_windows m_in_windows bt d_spans_of
  have d_summed := dd_summed (P := l.prog) (w := w) (base := base) F_summed m_summed bt 
  have d_worth_at := dd_worth_at (P := l.prog) (w := w) (base := base) F_worth_at m_worth_at bt 
  have d_worth := dd_worth (P := l.prog) (w := w) (base := base) F_worth m_worth bt d_worth_at
  have d_together := dd_together (P := l.prog) (w := w) (base := base) F_together m_together bt 
  have d_sums_of := dd_sums_of (P := l.prog) (w := w) (base := base) F_sums_of m_sums_of bt d_by_keys d_in_windows d_summed d_worth d_together
  have d_of_step := dd_of_step (P := l.prog) (w := w) (base := base) F_of_step m_of_step bt d_step_of d_steps_ahead d_columns_of d_of_source d_sums_of
  have d_out_of := dd_out_of (P := l.prog) (w := w) (base := base) F_out_of m_out_of bt 
  have d_rank := dd_rank (P := l.prog) (w := w) (base := base) F_rank m_rank bt 
  have d_ranks := dd_ranks (P := l.prog) (w := w) (base := base) F_ranks m_ranks bt d_rank
  have d_place_of := dd_place_of (P := l.prog) (w := w) (base := base) F_place_of m_place_of bt d_ranks
  have d_rows_with_lots := dd_rows_with_lots (P := l.prog) (w := w) (base := base) F_rows_with_lots m_rows_with_lots bt hc_rows_with_lots TB d_place_of d_marks_of d_of_step d_out_of
  have d_meaning := dd_meaning (P := l.prog) (w := w) (base := base) F_meaning m_meaning bt d_bag_of d_rows_with_lots
  have d_whole := dd_whole (P := l.prog) (w := w) (base := base) F_whole m_whole bt d_meaning
  exact ok_law F_law bt Fo m_law_open_cells F_law_open_cells.kp bo d_law_draw_queries d_can_part d_second_hows d_law_draw_rows d_law_pick d_law_draw_entries d_law_mark_of d_law_bag d_law_sum_rows d_marks_of d_meaning d_whole
end Dl
end
section
set_option Elab.async false
set_option linter.all false
set_option autoImplicit false
set_option maxRecDepth 100000
set_option maxHeartbeats 2000000
/-! P1: the plain law, first part: comprehensions read off, keys, bags. -/
namespace Dl
open PySem
/-! ### environments outside a block's names -/
def Ag (vs : List Nat) (ρ ρ' : DEnv) : Prop := ρ'.src = ρ.src ∧ ρ'.sl.length = ρ.sl.length ∧ ∀ j, j ∉ vs → ρ'.sl[j]? = ρ.sl[j]?
theorem denv_ext {ρ ρ' : DEnv} (h1 : ρ.sl = ρ'.sl) (h2 : ρ.src = ρ'.src) : ρ = ρ' := by
  cases ρ
  cases ρ'
  cases h1
  cases h2
  rfl
theorem Ag.refl {vs : List Nat} {ρ : DEnv} : Ag vs ρ ρ := ⟨rfl, rfl, fun _ _ => rfl⟩
theorem Ag.wipe {vs : List Nat} {ρ ρ' : DEnv} (h : Ag vs ρ ρ') : wipeE vs ρ' = wipeE vs ρ := by
  obtain ⟨h1, h2, h3⟩ := h
  refine denv_ext (List.ext_getElem? fun j => ?_) (by rw [wipeE_src, wipeE_src, h1])
  rw [wipeE_get, wipeE_get]
  by_cases e : j ∈ vs
  · rw [if_pos e, if_pos e]
    by_cases hl : j < ρ.sl.length
    · rw [List.getElem?_eq_getElem hl, List.getElem?_eq_getElem (by omega)]
      rfl
    · rw [List.getElem?_eq_none (by omega), List.getElem?_eq_none (by omega)]
  · rw [if_neg e, if_neg e, h3 j e]
theorem Ag.keep {vs : List Nat} {ρ ρ' : DEnv} (h : Ag vs ρ ρ') : keepSlots vs ρ ρ' = ρ := by
  obtain ⟨h1, h2, h3⟩ := h
  refine denv_ext (List.ext_getElem? fun j => ?_) h1
  rw [keep_get]
  by_cases e : j ∈ vs
  · rw [if_pos e]
    by_cases hl : j < ρ.sl.length
    · rw [List.getElem?_eq_getElem hl, List.getElem?_eq_getElem (by omega : j < ρ'.sl.length), List.getD_eq_getElem?_getD, List.getElem?_eq_getElem hl]
      rfl
    · have n1 : ρ.sl[j]? = none := List.getElem?_eq_none (by omega)
      have n2 : ρ'.sl[j]? = none := List.getElem?_eq_none (by omega)
      rw [n1, n2]
      rfl
  · rw [if_neg e, h3 j e]
theorem putAll_ag {vs : List Nat} : ∀ {ix : List Nat} {xs : List PyData} {ρ ρ' : DEnv}, (∀ i ∈ ix, i ∈ vs) → Ag vs ρ ρ' → Ag vs ρ (putAll ix xs ρ')
  | [], xs, ρ, ρ', h, a => by cases xs <;> exact a
  | i :: ix, [], ρ, ρ', h, a => a
  | i :: ix, x :: xs, ρ, ρ', h, a => by
    refine putAll_ag (ix := ix) (fun j hj => h j (List.mem_cons_of_mem _ hj)) ⟨a.1, by show (ρ'.sl.set i _).length = _; rw [List.length_set]; exact a.2.1, fun j hj => ?_⟩
    show (ρ'.sl.set i _)[j]? = _
    rw [List.getElem?_set_ne (fun z => hj (by rw [← z]; exact h i List.mem_cons_self))]
    exact a.2.2 j hj
theorem wiped_ag {vs : List Nat} {ρ : DEnv} : Ag vs ρ (wipeE vs ρ) := ⟨wipeE_src _ _, wipeE_len _ _, fun j hj => by rw [wipeE_get, if_neg hj]⟩
theorem ag_trans {vs : List Nat} {ρ ρ1 ρ2 : DEnv} (a : Ag vs ρ ρ1) (b : Ag vs ρ1 ρ2) : Ag vs ρ ρ2 := ⟨b.1.trans a.1, b.2.1.trans a.2.1, fun j hj => (b.2.2 j hj).trans (a.2.2 j hj)⟩
/-- the block's environment with its target's names laid -/
abbrev inB (ix vs : List Nat) (ρ : DEnv) (ys : List PyData) : DEnv := putAll ix ys (wipeE vs ρ)
theorem lc_pure {α : Type} {ix : List Nat} {f : Asg} {vs : List Nat} {t : M Bool} {a : M PyData} {e : α → PyData} {b : α → Bool} {g : α → PyData} {ρ : DEnv} (hix : ∀ i ∈ ix, i ∈ vs) : ∀ (xs : List α) (acc : List PyData) (ρ' : DEnv), Ag vs ρ ρ' →
    (∀ x ∈ xs, ∃ ys, f (e x) = some ys ∧ t (inB ix vs ρ ys) = some (b x, inB ix vs ρ ys) ∧ (b x = true → a (inB ix vs ρ ys) = some (g x, inB ix vs ρ ys))) → ∃ ρ'', Ag vs ρ ρ'' ∧ lcGo ix f vs t a (xs.map e) acc ρ' = some (acc ++ (xs.filter b).map g, ρ'')
  | [], acc, ρ', ag, h => ⟨ρ', ag, by simp [lcGo]⟩
  | x :: xs, acc, ρ', ag, h => by
    obtain ⟨ys, h1, h2, h3⟩ := h x List.mem_cons_self
    have ag2 : Ag vs ρ (inB ix vs ρ ys) := putAll_ag hix wiped_ag
    rw [List.map_cons]
    have e1 : asgM ix f (e x) (wipeE vs ρ') = some (inB ix vs ρ ys) := by
      unfold asgM
      rw [h1, ag.wipe]
      rfl
    have st : lcGo ix f vs t a (e x :: xs.map e) acc ρ' = (t (inB ix vs ρ ys)).bind fun p => if p.1 = true then (a p.2).bind fun q => lcGo ix f vs t a (xs.map e) (acc ++ [q.1]) q.2 else lcGo ix f vs t a (xs.map e) acc p.2 := by
      show (asgM ix f (e x) (wipeE vs ρ')).bind _ = _
      rw [e1]
      rfl
    rw [st, h2]
    cases hb : b x with
    | true =>
      obtain ⟨ρ'', q1, q2⟩ := lc_pure hix xs (acc ++ [g x]) _ ag2 fun y hy => h y (List.mem_cons_of_mem _ hy)
      refine ⟨ρ'', q1, ?_⟩
      show (a (inB ix vs ρ ys)).bind _ = _
      rw [h3 hb]
      show lcGo ix f vs t a (xs.map e) (acc ++ [g x]) (inB ix vs ρ ys) = _
      rw [q2, List.filter_cons, if_pos hb]
      simp
    | false =>
      obtain ⟨ρ'', q1, q2⟩ := lc_pure hix xs acc _ ag2 fun y hy => h y (List.mem_cons_of_mem _ hy)
      refine ⟨ρ'', q1, ?_⟩
      show lcGo ix f vs t a (xs.map e) acc (inB ix vs ρ ys) = _
      rw [q2, List.filter_cons, if_neg (by rw [hb]; exact Bool.false_ne_true)]
/-- a comprehension whose parts change nothing -/
theorem comp_pure {α : Type} {it : M (List PyData)} {ix : List Nat} {f : Asg} {vs : List Nat} {t : M Bool} {a : M PyData} {e : α → PyData} {xs : List α} {ρ : DEnv} (b : α → Bool) (g : α → PyData) (hit : it ρ = some (xs.map e, ρ)) (hs : small xs.length = true)
    (h : ∀ x ∈ xs, ∃ ys, f (e x) = some ys ∧ t (inB ix vs ρ ys) = some (b x, inB ix vs ρ ys) ∧ (b x = true → a (inB ix vs ρ ys) = some (g x, inB ix vs ρ ys))) (ho : ownFree vs ρ = true := by rfl) (hix : ∀ i ∈ ix, i ∈ vs := by decide) : lComp it ix f vs t a ρ = some ((xs.filter b).map g, ρ) := by
  unfold lComp
  rw [hit]
  show (if ownFree vs ρ && small (xs.map e).length then _ else _) = _
  rw [ho, List.length_map, hs, if_pos (by rfl)]
  obtain ⟨ρ'', q1, q2⟩ := lc_pure (e := e) (b := b) (g := g) hix xs [] ρ .refl h
  rw [q2]
  show some ([] ++ (xs.filter b).map g, keepSlots vs ρ ρ'') = _
  rw [q1.keep, List.nil_append]
theorem filter_yes {α : Type} (xs : List α) : xs.filter (fun _ => true) = xs := by
  induction xs with
  | nil => rfl
  | cons x xs ih => rw [List.filter_cons, if_pos rfl, ih]
/-- .. without tests -/
theorem comp_all {α : Type} {it : M (List PyData)} {ix : List Nat} {f : Asg} {vs : List Nat} {a : M PyData} {e : α → PyData} {xs : List α} {ρ : DEnv} (g : α → PyData) (hit : it ρ = some (xs.map e, ρ)) (hs : small xs.length = true)
    (h : ∀ x ∈ xs, ∃ ys, f (e x) = some ys ∧ a (inB ix vs ρ ys) = some (g x, inB ix vs ρ ys)) (ho : ownFree vs ρ = true := by rfl) (hix : ∀ i ∈ ix, i ∈ vs := by decide) : lComp it ix f vs tYes a ρ = some (xs.map g, ρ) := by
  have z := comp_pure (t := tYes) (a := a) (f := f) (e := e) (fun _ => true) g hit hs (fun x hx => let ⟨ys, h1, h2⟩ := h x hx; ⟨ys, h1, rfl, fun _ => h2⟩) ho hix
  rw [filter_yes] at z
  exact z
/-! ### values, ranks -/
/-- none, a number or a text -/
inductive Val : PyData → Prop
  | non : Val .none
  | int (i : Int) : Val (.int i)
  | str (x : Str) : Val (.str x)
def rankD : PyData → PyData
  | .int i => .tuple [.int 1, .int i]
  | .str x => .tuple [.int 2, .str x]
  | _ => .tuple [.int 0]
theorem m_rank_eq {d : PyData} (h : Val d) : m_rank [d] = some (rankD d) := by
  cases h <;> rfl
theorem m_ranks_eq {vs : List PyData} (h : ∀ v ∈ vs, Val v) (hs : small vs.length = true) : m_ranks [.tuple vs] = some (.tuple (vs.map rankD)) := by
  have z : lComp (iDat (eVar 0)) [1] aName [1] tYes (eCall m_rank (aCons (eVar 1) aNil)) ⟨[.dat (.tuple vs), .un], none⟩ = some (vs.map rankD, ⟨[.dat (.tuple vs), .un], none⟩) := by
    refine comp_all (e := id) rankD (by rw [List.map_id]; rfl) hs fun v hv => ⟨[v], rfl, ?_⟩
    show (m_rank [v]).bind _ = _
    rw [m_rank_eq (h v hv)]
    rfl
  show ((sRet (e1 tupD (eFz (lComp (iDat (eVar 0)) [1] aName [1] tYes (eCall m_rank (aCons (eVar 1) aNil))))) ⟨[.dat (.tuple vs), .un], none⟩).bind _) = _
  unfold sRet e1 eFz
  rw [z]
  rfl
end Dl
end
section
set_option Elab.async false
set_option linter.all false
set_option autoImplicit false
set_option maxRecDepth 100000
set_option maxHeartbeats 2000000
/-! P2: bags. -/
namespace Dl
open PySem
abbrev Cnt := List (NestedKey × Int)
def cget (A : Cnt) (k : NestedKey) : Option Int := (A.find? fun q => decide (q.1 = k)).map (·.2)
def incr (A : Cnt) (k : NestedKey) : Cnt := if A.any fun p => decide (p.1 = k) then A.map fun p => if p.1 = k then (p.1, (cget A k).getD 0 + 1) else p else A ++ [(k, (cget A k).getD 0 + 1)]
def cntL : List NestedKey → Cnt → Cnt
  | [], A => A
  | k :: ks, A => cntL ks (incr A k)
def encN (A : Cnt) : List (NestedKey × PyData) := A.map fun p => (p.1, .int p.2)
theorem valN_enc (k : NestedKey) : ∀ A : Cnt, valN (encN A) k = (cget A k).map PyData.int
  | [] => rfl
  | p :: A => by
    unfold valN encN cget
    rw [List.map_cons]
    by_cases e : p.1 = k
    · rw [List.find?_cons_of_pos (by simpa using e), List.find?_cons_of_pos (by simpa using e)]
      rfl
    · rw [List.find?_cons_of_neg (by simpa using e), List.find?_cons_of_neg (by simpa using e)]
      exact valN_enc k A
theorem any_enc (k : NestedKey) (A : Cnt) : ((encN A).any fun p => decide (p.1 = k)) = A.any fun p => decide (p.1 = k) := by
  unfold encN
  rw [List.any_map]
  rfl
theorem putN_enc (k : NestedKey) (A : Cnt) : putN (encN A) k (.int ((cget A k).getD 0 + 1)) = encN (incr A k) := by
  unfold putN incr
  rw [any_enc]
  by_cases h : (A.any fun p => decide (p.1 = k)) = true
  · rw [if_pos h, if_pos h]
    unfold encN
    rw [List.map_map, List.map_map]
    refine List.map_congr_left fun p _ => ?_
    by_cases e : p.1 = k
    · simp [e]
    · simp [e]
  · rw [if_neg h, if_neg h]
    unfold encN
    rw [List.map_append]
    rfl
theorem incr_len (k : NestedKey) (A : Cnt) : (incr A k).length ≤ A.length + 1 := by
  unfold incr
  split
  · rw [List.length_map]
    omega
  · rw [List.length_append]
    simp
theorem cget_none {k : NestedKey} : ∀ {A : Cnt}, ¬ (A.any fun p => decide (p.1 = k)) = true → cget A k = none
  | [], _ => rfl
  | p :: A, h => by
    rw [List.any_cons, Bool.or_eq_true, not_or] at h
    unfold cget
    rw [List.find?_cons_of_neg (by simpa using h.1)]
    exact cget_none h.2
theorem cget_map {j k : NestedKey} {n : Int} : ∀ A : Cnt, cget (A.map fun p => if p.1 = k then (p.1, n) else p) j = if j = k then (cget A j).map fun _ => n else cget A j
  | [] => by simp [cget]
  | p :: A => by
    unfold cget
    rw [List.map_cons]
    by_cases e : p.1 = k
    · rw [if_pos e]
      by_cases h : p.1 = j
      · rw [List.find?_cons_of_pos (by simpa using h), List.find?_cons_of_pos (by simpa using h), if_pos (h.symm.trans e)]
        rfl
      · rw [List.find?_cons_of_neg (by simpa using h), List.find?_cons_of_neg (by simpa using h)]
        exact cget_map A
    · rw [if_neg e]
      by_cases h : p.1 = j
      · rw [List.find?_cons_of_pos (by simpa using h), List.find?_cons_of_pos (by simpa using h), if_neg fun z => e (h.trans z)]
      · rw [List.find?_cons_of_neg (by simpa using h), List.find?_cons_of_neg (by simpa using h)]
        exact cget_map A
theorem cget_some {k : NestedKey} : ∀ {A : Cnt}, (A.any fun p => decide (p.1 = k)) = true → ∃ n, cget A k = some n
  | [], h => by simp at h
  | p :: A, h => by
    unfold cget
    by_cases e : p.1 = k
    · rw [List.find?_cons_of_pos (by simpa using e)]
      exact ⟨p.2, rfl⟩
    · rw [List.any_cons, Bool.or_eq_true] at h
      rw [List.find?_cons_of_neg (by simpa using e)]
      exact cget_some (h.resolve_left (by simpa using e))
theorem cget_app {j k : NestedKey} {n : Int} : ∀ {A : Cnt}, cget A k = none → cget (A ++ [(k, n)]) j = if j = k then some n else cget A j
  | [], _ => by
    unfold cget
    by_cases e : k = j
    · rw [List.nil_append, List.find?_cons_of_pos (by simpa using e), if_pos e.symm]
      rfl
    · rw [List.nil_append, List.find?_cons_of_neg (by simpa using e), if_neg fun z => e z.symm]
  | p :: A, h => by
    unfold cget at h ⊢
    by_cases e : p.1 = k
    · rw [List.find?_cons_of_pos (by simpa using e)] at h
      cases h
    · rw [List.find?_cons_of_neg (by simpa using e)] at h
      rw [List.cons_append]
      by_cases g : p.1 = j
      · rw [List.find?_cons_of_pos (by simpa using g), List.find?_cons_of_pos (by simpa using g), if_neg fun z => e (g.trans z)]
      · rw [List.find?_cons_of_neg (by simpa using g), List.find?_cons_of_neg (by simpa using g)]
        exact cget_app h
theorem cget_incr (j k : NestedKey) (A : Cnt) : cget (incr A k) j = if j = k then some ((cget A k).getD 0 + 1) else cget A j := by
  unfold incr
  by_cases h : (A.any fun p => decide (p.1 = k)) = true
  · rw [if_pos h, cget_map]
    by_cases e : j = k
    · subst e
      obtain ⟨n, hn⟩ := cget_some h
      rw [if_pos rfl, if_pos rfl, hn]
      rfl
    · rw [if_neg e, if_neg e]
  · rw [if_neg h]
    exact cget_app (cget_none h)
theorem cget_cnt (j : NestedKey) : ∀ (ks : List NestedKey) (A : Cnt), cget (cntL ks A) j = if j ∈ ks then some ((cget A j).getD 0 + (ks.filter fun k => decide (k = j)).length) else cget A j
  | [], A => by simp [cntL]
  | k :: ks, A => by
    rw [cntL, cget_cnt j ks, cget_incr]
    by_cases e : j = k
    · subst e
      rw [if_pos rfl, if_pos List.mem_cons_self]
      by_cases h : j ∈ ks
      · rw [if_pos h, List.filter_cons_of_pos (by simp), List.length_cons]
        congr 1
        show (cget A j).getD 0 + 1 + _ = _
        push_cast
        omega
      · rw [if_neg h, List.filter_cons_of_pos (by simp), List.length_cons]
        have : (ks.filter fun k => decide (k = j)) = [] := List.filter_eq_nil_iff.mpr fun x hx => by
          simp only [decide_eq_true_eq]
          exact fun z => h (z ▸ hx)
        rw [this]
        rfl
    · rw [if_neg e, List.filter_cons_of_neg (by simpa using fun z => e z.symm)]
      by_cases h : j ∈ ks
      · rw [if_pos h, if_pos (List.mem_cons_of_mem _ h)]
      · rw [if_neg h, if_neg fun z => (List.mem_cons.mp z).elim e h]
theorem keys_incr {k : NestedKey} {A : Cnt} (h : (A.map (·.1)).Nodup) : ((incr A k).map (·.1)).Nodup := by
  unfold incr
  by_cases e : (A.any fun p => decide (p.1 = k)) = true
  · rw [if_pos e, List.map_map]
    have : ((fun p : NestedKey × Int => p.1) ∘ fun p => if p.1 = k then (p.1, (cget A k).getD 0 + 1) else p) = fun p => p.1 := by
      funext p
      show (if p.1 = k then _ else p).1 = p.1
      split <;> rfl
    rw [this]
    exact h
  · rw [if_neg e, List.map_append, List.nodup_append]
    refine ⟨h, by simp, fun a ha b hb z => e ?_⟩
    simp only [List.map_cons, List.map_nil, List.mem_singleton] at hb
    obtain ⟨p, hp, rfl⟩ := List.mem_map.mp ha
    exact List.any_eq_true.mpr ⟨p, hp, by simpa using z.trans hb⟩
theorem keys_cnt : ∀ {ks : List NestedKey} {A : Cnt}, (A.map (·.1)).Nodup → ((cntL ks A).map (·.1)).Nodup
  | [], A, h => h
  | k :: ks, A, h => keys_cnt (ks := ks) (keys_incr h)
theorem mem_cget {A : Cnt} (h : (A.map (·.1)).Nodup) {p : NestedKey × Int} (hp : p ∈ A) : cget A p.1 = some p.2 := by
  induction A with
  | nil => cases hp
  | cons q A ih =>
    unfold cget
    rw [List.map_cons, List.nodup_cons] at h
    rcases List.mem_cons.mp hp with rfl | hp
    · rw [List.find?_cons_of_pos (by simp)]
      rfl
    · have ne : q.1 ≠ p.1 := fun z => h.1 (by rw [z]; exact List.mem_map.mpr ⟨p, hp, rfl⟩)
      rw [List.find?_cons_of_neg (by simpa using ne)]
      exact ih h.2 hp
theorem cget_mem {A : Cnt} {k : NestedKey} {n : Int} (h : cget A k = some n) : k ∈ A.map (·.1) := by
  unfold cget at h
  obtain ⟨p, h1, h2⟩ := Option.map_eq_some_iff.mp h
  have := List.find?_some h1
  exact List.mem_map.mpr ⟨p, List.mem_of_find?_eq_some h1, by simpa using this⟩
/-- bags of the same things, in whatever order -/
theorem cnt_perm {ks ls : List NestedKey} (p : ks.Perm ls) : (cntL ks []).length = (cntL ls []).length ∧ ∀ q ∈ cntL ks [], cget (cntL ls []) q.1 = some q.2 := by
  have n1 : ((cntL ks []).map (·.1)).Nodup := keys_cnt List.nodup_nil
  have n2 : ((cntL ls []).map (·.1)).Nodup := keys_cnt List.nodup_nil
  have e : ∀ j, cget (cntL ks []) j = cget (cntL ls []) j := fun j => by
    rw [cget_cnt, cget_cnt]
    by_cases h : j ∈ ks
    · rw [if_pos h, if_pos (p.mem_iff.mp h), (p.filter _).length_eq]
    · rw [if_neg h, if_neg fun z => h (p.mem_iff.mpr z)]
  refine ⟨?_, fun q hq => (e q.1).symm.trans (mem_cget n1 hq)⟩
  have mem : ∀ j, j ∈ (cntL ks []).map (·.1) ↔ j ∈ (cntL ls []).map (·.1) := fun j => by
    constructor
    · intro h
      obtain ⟨q, hq, rfl⟩ := List.mem_map.mp h
      exact cget_mem ((e q.1).symm.trans (mem_cget n1 hq))
    · intro h
      obtain ⟨q, hq, rfl⟩ := List.mem_map.mp h
      exact cget_mem ((e q.1).trans (mem_cget n2 hq))
  have z := ((List.perm_ext_iff_of_nodup n1 n2).mpr mem).length_eq
  rw [List.length_map, List.length_map] at z
  exact z
/-! ### the mirrors of bag_of -/
def bagG : G := sPutN 1 (eVar 2) (e2 opAdd (eGetN 1 (eVar 2) (eC (.int 0))) (eC (.int 1)))
theorem bag_loop {l : PyData} : ∀ (ks : List NestedKey) (A : Cnt) (s2 : Sl), (∀ k ∈ ks, toKey k.data = some k) → A.length + ks.length ≤ 100000 → ∃ s3, forGo [2] aName bagG (ks.map (·.data)) ⟨[.dat l, .nd (encN A), s2], none⟩ = some (.next, ⟨[.dat l, .nd (encN (cntL ks A)), s3], none⟩)
  | [], A, s2, _, _ => ⟨s2, rfl⟩
  | k :: ks, A, s2, h, hl => by
    rw [List.length_cons] at hl
    have hk := h k List.mem_cons_self
    obtain ⟨s3, q⟩ := bag_loop (l := l) ks (incr A k) (.dat k.data) (fun j hj => h j (List.mem_cons_of_mem _ hj)) (by have := incr_len k A; omega)
    refine ⟨s3, ?_⟩
    have st : bagG ⟨[.dat l, .nd (encN A), .dat k.data], none⟩ = some (.next, ⟨[.dat l, .nd (encN (incr A k)), .dat k.data], none⟩) := by
      have g : eGetN 1 (eVar 2) (eC (.int 0)) ⟨[.dat l, .nd (encN A), .dat k.data], none⟩ = some (.int ((cget A k).getD 0), ⟨[.dat l, .nd (encN A), .dat k.data], none⟩) := by
        show (toKey k.data).bind _ = _
        rw [hk]
        show some ((valN (encN A) k).getD (.int 0), _) = _
        rw [valN_enc]
        cases cget A k <;> rfl
      unfold bagG sPutN e2
      rw [g]
      show (toKey k.data).bind _ = _
      rw [hk]
      have hs : small (encN A).length = true := by
        unfold encN
        rw [List.length_map]
        exact decide_eq_true (by omega)
      show (if small (encN A).length = true then some (Fl.next, DEnv.mk [.dat l, .nd (putN (encN A) k (.int ((cget A k).getD 0 + 1))), .dat k.data] none) else none) = _
      rw [if_pos hs, putN_enc]
    rw [List.map_cons]
    show (bagG ⟨[.dat l, .nd (encN A), .dat k.data], none⟩).bind _ = _
    rw [st]
    exact q
theorem bags_enc : ∀ {A : Cnt}, (∀ p ∈ A, toKey p.1.data = some p.1) → bagsD ((encN A).map fun p => (p.1.data, p.2)) = some A
  | [], _ => rfl
  | p :: A, h => by
    show (toKey p.1.data).bind _ = _
    rw [h p List.mem_cons_self]
    show (bagsD ((encN A).map fun p => (p.1.data, p.2))).bind _ = _
    rw [bags_enc fun q hq => h q (List.mem_cons_of_mem _ hq)]
    rfl
theorem cnt_keys {P : NestedKey → Prop} : ∀ {ks : List NestedKey} {A : Cnt}, (∀ k ∈ ks, P k) → (∀ p ∈ A, P p.1) → ∀ p ∈ cntL ks A, P p.1
  | [], A, _, h => h
  | k :: ks, A, h1, h2 => cnt_keys (ks := ks) (fun j hj => h1 j (List.mem_cons_of_mem _ hj)) fun p hp => by
    unfold incr at hp
    split at hp
    · obtain ⟨q, hq, rfl⟩ := List.mem_map.mp hp
      split
      · exact h2 q hq
      · exact h2 q hq
    · rcases List.mem_append.mp hp with hp | hp
      · exact h2 p hp
      · rw [List.mem_singleton.mp hp]
        exact h1 k List.mem_cons_self
def bagOf (ks : List NestedKey) : PyData := ndD (encN (cntL ks []))
theorem m_bag_of_eq {ks : List NestedKey} (h : ∀ k ∈ ks, toKey k.data = some k) (hl : ks.length ≤ 100000) : m_bag_of [.list (ks.map (·.data))] = some (bagOf ks) := by
  obtain ⟨s3, q⟩ := bag_loop (l := .list (ks.map (·.data))) ks [] .un h (by simpa using hl)
  show ((forGo [2] aName bagG (ks.map (·.data)) ⟨[.dat (.list (ks.map (·.data))), .nd (encN []), .un], none⟩).bind _ : Option (Fl × DEnv)).bind _ = _
  rw [q]
  rfl
theorem m_law_bag_eq {ks : List NestedKey} (h : ∀ k ∈ ks, toKey k.data = some k) (hl : ks.length ≤ 100000) : m_law_bag [.list (ks.map (·.data))] = some (bagOf ks) := m_bag_of_eq h hl
theorem same_bag {ks ls : List NestedKey} (h1 : ∀ k ∈ ks, toKey k.data = some k) (h2 : ∀ k ∈ ls, toKey k.data = some k) (p : ks.Perm ls) : ∃ a c, bagOf ks = .dict a ∧ bagOf ls = .dict c ∧ sameBag a c = true := by
  refine ⟨(encN (cntL ks [])).map fun p => (p.1.data, p.2), (encN (cntL ls [])).map fun p => (p.1.data, p.2), rfl, rfl, ?_⟩
  obtain ⟨g1, g2⟩ := cnt_perm p
  unfold sameBag
  rw [bags_enc (cnt_keys (P := fun k => toKey k.data = some k) h1 (fun _ h => by cases h)), bags_enc (cnt_keys (P := fun k => toKey k.data = some k) h2 (fun _ h => by cases h))]
  show (decide ((cntL ks []).length = (cntL ls []).length) && (cntL ks []).all _) = true
  rw [Bool.and_eq_true]
  exact ⟨decide_eq_true g1, List.all_eq_true.mpr fun q hq => decide_eq_true (g2 q hq)⟩
end Dl
end
section
set_option Elab.async false
set_option linter.all false
set_option autoImplicit false
set_option maxRecDepth 100000
set_option maxHeartbeats 2000000
/-! P3: a small calculus for the mirrors; rows, their places, the sort, meaning. -/
namespace Dl
open PySem
section
variable {a b c : M PyData} {r t : M (List PyData)} {tb : M Bool} {ρ ρ1 ρ2 ρ3 : DEnv} {x y z d : PyData} {xs ys ds : List PyData} {f : PyData → PyData → Option PyData} {g : PyData → Option PyData} {m : List PyData → Option PyData} {ga gb : G} {p : Fl × DEnv} {q : PyData × DEnv} {i j n ar : Nat} {ix vs : List Nat} {af : Asg} {va vb : M Sl} {s s' : Sl}
theorem aC (h1 : a ρ = some (x, ρ1)) (h2 : r ρ1 = some (xs, ρ2)) : aCons a r ρ = some (x :: xs, ρ2) := by
  unfold aCons
  rw [h1]
  show (r ρ1).bind _ = _
  rw [h2]
  rfl
theorem aN : aNil ρ = some ([], ρ) := rfl
theorem aS (h1 : a ρ = some (x, ρ1)) (h0 : itemsD x = some ys) (h2 : r ρ1 = some (xs, ρ2)) : aStar a r ρ = some (ys ++ xs, ρ2) := by
  unfold aStar
  rw [h1]
  show (itemsD x).bind _ = _
  rw [h0]
  show (r ρ1).bind _ = _
  rw [h2]
  rfl
theorem tupC (h : t ρ = some (xs, ρ1)) (hs : small xs.length = true) : eTup t ρ = some (.tuple xs, ρ1) := by
  unfold eTup
  rw [h]
  show (if small xs.length = true then _ else _) = _
  rw [if_pos hs]
theorem dispC (h : t ρ = some (xs, ρ1)) (hs : small xs.length = true) : lDisp t ρ = some (xs, ρ1) := by
  unfold lDisp
  rw [h]
  show (if small xs.length = true then _ else _) = _
  rw [if_pos hs]
theorem e1C (h : a ρ = some (x, ρ1)) (hg : g x = some y) : e1 g a ρ = some (y, ρ1) := by
  unfold e1
  rw [h]
  show (g x).bind _ = _
  rw [hg]
  rfl
theorem e2C (h1 : a ρ = some (x, ρ1)) (h2 : b ρ1 = some (y, ρ2)) (hf : f x y = some z) : e2 f a b ρ = some (z, ρ2) := by
  unfold e2
  rw [h1]
  show (b ρ1).bind _ = _
  rw [h2]
  show (f x y).bind _ = _
  rw [hf]
  rfl
theorem callC (h : t ρ = some (xs, ρ1)) (hm : m xs = some y) : eCall m t ρ = some (y, ρ1) := by
  unfold eCall
  rw [h]
  show (m xs).bind _ = _
  rw [hm]
  rfl
theorem retC (h : a ρ = some (d, ρ1)) : sRet a ρ = some (.ret d, ρ1) := by
  unfold sRet
  rw [h]
  rfl
theorem seqN (h1 : ga ρ = some (.next, ρ1)) (h2 : gb ρ1 = some p) : sSeq ga gb ρ = some p := by
  unfold sSeq
  rw [h1]
  exact h2
theorem seqR (h1 : ga ρ = some (.ret d, ρ1)) : sSeq ga gb ρ = some (.ret d, ρ1) := by
  unfold sSeq
  rw [h1]
  rfl
theorem setC (h1 : a ρ = some (d, ρ1)) (h2 : af d = some xs) (h3 : putAll ix xs ρ1 = ρ2 := by rfl) : sSet ix af a ρ = some (.next, ρ2) := by
  unfold sSet asgM
  rw [h1]
  show ((af d).bind _).bind _ = _
  rw [h2, ← h3]
  rfl
theorem setVC (h1 : va ρ = some (s, ρ1)) (h2 : ρ1.put i s = ρ2 := by rfl) : sSetV i va ρ = some (.next, ρ2) := by
  unfold sSetV
  rw [h1, ← h2]
  rfl
theorem parC (h1 : va ρ = some (s, ρ1)) (h2 : vb ρ1 = some (s', ρ2)) (h3 : (ρ2.put i s).put j s' = ρ3 := by rfl) : sPar i j va vb ρ = some (.next, ρ3) := by
  unfold sPar
  rw [h1]
  show (vb ρ1).bind _ = _
  rw [h2, ← h3]
  rfl
theorem ifT (h1 : tb ρ = some (true, ρ1)) (h2 : ga ρ1 = some p) : sIf tb ga gb ρ = some p := by
  unfold sIf
  rw [h1]
  exact h2
theorem ifF (h1 : tb ρ = some (false, ρ1)) (h2 : gb ρ1 = some p) : sIf tb ga gb ρ = some p := by
  unfold sIf
  rw [h1]
  exact h2
theorem eifT (h1 : tb ρ = some (true, ρ1)) (h2 : a ρ1 = some q) : eIf tb a b ρ = some q := by
  unfold eIf
  rw [h1]
  exact h2
theorem eifF (h1 : tb ρ = some (false, ρ1)) (h2 : b ρ1 = some q) : eIf tb a b ρ = some q := by
  unfold eIf
  rw [h1]
  exact h2
theorem tbC {bb : Bool} (h : a ρ = some (.bool bb, ρ1)) : tB a ρ = some (bb, ρ1) := by
  unfold tB
  rw [h]
  rfl
theorem fzC (h : t ρ = some (xs, ρ1)) : eFz t ρ = some (.list xs, ρ1) := by
  unfold eFz
  rw [h]
  rfl
theorem vDC (h : a ρ = some (d, ρ1)) : vD a ρ = some (.dat d, ρ1) := by
  unfold vD
  rw [h]
  rfl
theorem vLC (h : t ρ = some (xs, ρ1)) : vL t ρ = some (.lst xs, ρ1) := by
  unfold vL
  rw [h]
  rfl
theorem datC (h : a ρ = some (d, ρ1)) (h2 : itemsD d = some ds) : iDat a ρ = some (ds, ρ1) := by
  unfold iDat
  rw [h]
  show (itemsD d).bind _ = _
  rw [h2]
  rfl
theorem runC {g : G} (h : g (startE n (ds.map .dat) none) = some (.ret d, ρ1)) (hl : ds.length = ar := by rfl) : runF ar n g ds = some d := by
  unfold runF
  rw [if_pos hl, h]
  rfl
theorem forNil {g : G} : forGo ix af g [] ρ = some (.next, ρ) := rfl
theorem forCons {g : G} (h1 : af d = some xs) (h2 : g (putAll ix xs ρ) = some (.next, ρ1)) (h3 : forGo ix af g ds ρ1 = some p) : forGo ix af g (d :: ds) ρ = some p := by
  show (asgM ix af d ρ).bind _ = _
  unfold asgM
  rw [h1]
  show (g (putAll ix xs ρ)).bind _ = _
  rw [h2]
  exact h3
theorem forC {it : M (List PyData)} {g : G} (h1 : it ρ = some (ds, ρ1)) (h2 : forGo ix af g ds ρ1 = some p) : sFor it ix af g ρ = some p := by
  unfold sFor
  rw [h1]
  exact h2
theorem appC {l : List PyData} (h0 : isL ρ i = true) (h1 : a ρ = some (x, ρ1)) (h2 : ρ1.sl[i]? = some (.lst l)) (hs : small l.length = true) (h3 : ρ1.put i (.lst (l ++ [x])) = ρ2 := by rfl) : sApp i a ρ = some (.next, ρ2) := by
  unfold sApp
  rw [if_pos h0, h1]
  show (ρ1.sl[i]?).bind _ = _
  rw [h2]
  show (if small l.length = true then _ else _) = _
  rw [if_pos hs, ← h3]
end
/-! ### rows -/
structure Rw where
  t : Int
  sg : Int
  vs : List PyData
def encR (r : Rw) : PyData := .tuple [.int r.t, .int r.sg, .tuple r.vs]
def encL (q : Rw × PyData) : PyData := .tuple [encR q.1, q.2]
def place (r : Rw) : PyData := .tuple [.int r.t, .int r.sg, .tuple (r.vs.map rankD)]
/-- few values, flat -/
structure RwOk (r : Rw) : Prop where
  flat : ∀ v ∈ r.vs, Val v
  few : r.vs.length ≤ 20
theorem small_of {n : Nat} (h : n ≤ 100000) : small n = true := decide_eq_true h
theorem m_place_eq {r : Rw} (h : RwOk r) : m_place_of [encR r] = some (place r) := by
  have hf := h.few
  refine runC (seqN (setC (d := encR r) rfl (xs := [.int r.t, .int r.sg, .tuple r.vs]) rfl) (retC (tupC (aC (x := .int r.t) rfl (aC (x := .int r.sg) rfl (aC (callC (aC (x := .tuple r.vs) rfl aN) (m_ranks_eq h.flat (small_of (by omega)))) aN))) rfl)))
theorem m_lam_eq {q : Rw × PyData} (h : RwOk q.1) : m_lam [encL q] = some (.tuple [place q.1, q.2]) := by
  have e : eTup (aCons (eCall m_place_of (aCons (e2 ixD (eVar 0) (eC (.int 0))) aNil)) (aCons (e2 ixD (eVar 0) (eC (.int 1))) aNil)) ⟨[.dat (encL q)], none⟩ = some (.tuple [place q.1, q.2], ⟨[.dat (encL q)], none⟩) :=
    tupC (aC (callC (aC (e2C (x := encL q) (y := .int 0) (z := encR q.1) rfl rfl rfl) aN) (m_place_eq h)) (aC (e2C (x := encL q) (y := .int 1) (z := q.2) rfl rfl rfl) aN)) rfl
  show ((eTup _ ⟨[.dat (encL q)], none⟩).bind _ : Option PyData) = _
  rw [e]
  rfl
theorem keysD_map {α : Type} {m : List PyData → Option PyData} {e k : α → PyData} : ∀ {xs : List α}, (∀ x ∈ xs, m [e x] = some (k x)) → keysD m (xs.map e) = some (xs.map k)
  | [], _ => rfl
  | x :: xs, h => by
    show (m [e x]).bind _ = _
    rw [h x List.mem_cons_self]
    show (keysD m (xs.map e)).bind _ = _
    rw [keysD_map fun y hy => h y (List.mem_cons_of_mem _ hy)]
    rfl
theorem zip_maps {α β γ : Type} {e : α → β} {k : α → γ} : ∀ xs : List α, (xs.map e).zip (xs.map k) = xs.map fun x => (e x, k x)
  | [] => rfl
  | x :: xs => by
    rw [List.map_cons, List.map_cons, List.zip_cons_cons, zip_maps, List.map_cons]
/-- what is sorted is the same things in another order -/
theorem sortC {α : Type} {m : List PyData → Option PyData} {e k : α → PyData} {xs : List α} {a : M PyData} {ρ ρ1 : DEnv} (h : a ρ = some (.list (xs.map e), ρ1)) (hm : ∀ x ∈ xs, m [e x] = some (k x)) (hs : small xs.length = true) (hal : alikeOk (xs.map k) = true) : ∃ ys : List α, ys.Perm xs ∧ lSort m a ρ = some (ys.map e, ρ1) := by
  have z : ∃ ys : List α, ys.Perm xs ∧ (((xs.map e).zip (xs.map k)).mergeSort (PySem.W.dataLe false fun q => q.2)).map (·.1) = ys.map e := by
    rw [zip_maps]
    refine ⟨xs.mergeSort (PySem.W.dataLe false k), List.mergeSort_perm _ _, ?_⟩
    have e1 := PySem.W.sort_maps (r := PySem.W.dataLe false k) (s := PySem.W.dataLe false fun q : PyData × PyData => q.2) (fun x => (e x, k x)) (l := xs) fun _ _ _ _ => rfl
    rw [← e1, List.map_map]
    rfl
  obtain ⟨ys, p, hy⟩ := z
  refine ⟨ys, p, ?_⟩
  unfold lSort
  rw [h]
  show (keysD m (xs.map e)).bind _ = _
  rw [keysD_map hm]
  show (if small (xs.map e).length && alikeOk (xs.map k) then some (_, ρ1) else none) = _
  rw [List.length_map, hs, hal, if_pos (by rfl), hy]
end Dl
end
section
set_option Elab.async false
set_option linter.all false
set_option autoImplicit false
set_option maxRecDepth 100000
set_option maxHeartbeats 2000000
/-! P4: distinct values in order, groups. -/
namespace Dl
open PySem
section
variable {α β : Type} [DecidableEq β]
/-- the values of f, each once, in the order of their first coming -/
def distGo (f : α → β) : List α → List β → List β
  | [], acc => acc
  | x :: xs, acc => if f x ∈ acc then distGo f xs acc else distGo f xs (acc ++ [f x])
def dist (f : α → β) (xs : List α) : List β := distGo f xs []
theorem distGo_mem {f : α → β} {k : β} : ∀ {xs : List α} {acc : List β}, k ∈ distGo f xs acc ↔ k ∈ acc ∨ ∃ x ∈ xs, f x = k
  | [], acc => by simp [distGo]
  | x :: xs, acc => by
    rw [distGo]
    by_cases h : f x ∈ acc
    · rw [if_pos h, distGo_mem]
      constructor
      · rintro (z | ⟨y, hy, e⟩)
        · exact .inl z
        · exact .inr ⟨y, List.mem_cons_of_mem _ hy, e⟩
      · rintro (z | ⟨y, hy, e⟩)
        · exact .inl z
        · rcases List.mem_cons.mp hy with rfl | hy
          · exact .inl (e ▸ h)
          · exact .inr ⟨y, hy, e⟩
    · rw [if_neg h, distGo_mem]
      constructor
      · rintro (z | ⟨y, hy, e⟩)
        · rcases List.mem_append.mp z with z | z
          · exact .inl z
          · exact .inr ⟨x, List.mem_cons_self, (List.mem_singleton.mp z).symm⟩
        · exact .inr ⟨y, List.mem_cons_of_mem _ hy, e⟩
      · rintro (z | ⟨y, hy, e⟩)
        · exact .inl (List.mem_append_left _ z)
        · rcases List.mem_cons.mp hy with rfl | hy
          · exact .inl (List.mem_append_right _ (List.mem_singleton.mpr e.symm))
          · exact .inr ⟨y, hy, e⟩
theorem distGo_nd {f : α → β} : ∀ {xs : List α} {acc : List β}, acc.Nodup → (distGo f xs acc).Nodup
  | [], acc, h => h
  | x :: xs, acc, h => by
    rw [distGo]
    by_cases e : f x ∈ acc
    · rw [if_pos e]
      exact distGo_nd h
    · rw [if_neg e]
      refine distGo_nd (List.nodup_append.mpr ⟨h, by simp, fun a ha b hb z => e ?_⟩)
      rw [← List.mem_singleton.mp hb, ← z]
      exact ha
theorem dist_mem {f : α → β} {xs : List α} {k : β} : k ∈ dist f xs ↔ ∃ x ∈ xs, f x = k := by
  unfold dist
  rw [distGo_mem]
  simp
theorem dist_nd {f : α → β} {xs : List α} : (dist f xs).Nodup := distGo_nd List.nodup_nil
theorem distGo_len {f : α → β} : ∀ {xs : List α} {acc : List β}, (distGo f xs acc).length ≤ acc.length + xs.length
  | [], acc => by simp [distGo]
  | x :: xs, acc => by
    rw [distGo, List.length_cons]
    split
    · have := distGo_len (f := f) (xs := xs) (acc := acc)
      omega
    · have := distGo_len (f := f) (xs := xs) (acc := acc ++ [f x])
      rw [List.length_append, List.length_singleton] at this
      omega
theorem dist_len {f : α → β} {xs : List α} : (dist f xs).length ≤ xs.length := by
  have := distGo_len (f := f) (xs := xs) (acc := [])
  unfold dist
  simpa using this
theorem distGo_app {f : α → β} : ∀ {xs ys : List α} {acc : List β}, distGo f (xs ++ ys) acc = distGo f ys (distGo f xs acc)
  | [], ys, acc => rfl
  | x :: xs, ys, acc => by
    rw [List.cons_append, distGo, distGo]
    split <;> exact distGo_app
theorem dist_snoc {f : α → β} {xs : List α} {x : α} : dist f (xs ++ [x]) = if f x ∈ dist f xs then dist f xs else dist f xs ++ [f x] := by
  unfold dist
  rw [distGo_app]
  rfl
end
/-! ### groups, as setdefault lays them -/
def grp {α : Type} (f : α → NestedKey) (e : α → PyData) (xs : List α) : List (NestedKey × List PyData) := (dist f xs).map fun k => (k, (xs.filter fun x => decide (f x = k)).map e)
theorem grp_add {α : Type} {f : α → NestedKey} {e : α → PyData} {xs : List α} {x : α} : addG (grp f e xs) (f x) (e x) = grp f e (xs ++ [x]) := by
  have any : ((grp f e xs).any fun p => decide (p.1 = f x)) = decide (f x ∈ dist f xs) := by
    rw [Bool.eq_iff_iff, List.any_eq_true, decide_eq_true_eq]
    constructor
    · rintro ⟨p, hp, h⟩
      obtain ⟨k, hk, rfl⟩ := List.mem_map.mp hp
      rw [← of_decide_eq_true h]
      exact hk
    · exact fun h => ⟨_, List.mem_map.mpr ⟨_, h, rfl⟩, by simp⟩
  unfold addG
  rw [any]
  by_cases h : f x ∈ dist f xs
  · rw [if_pos (by simpa using h)]
    unfold grp
    rw [dist_snoc, if_pos h, List.map_map]
    refine List.map_congr_left fun k hk => ?_
    show (if k = f x then _ else _) = _
    by_cases e0 : k = f x
    · subst e0
      rw [if_pos rfl, List.filter_append, List.filter_cons_of_pos (by simp), List.map_append]
      rfl
    · rw [if_neg e0, List.filter_append, List.filter_cons_of_neg (by simpa using fun z => e0 z.symm)]
      simp
  · rw [if_neg (by simpa using h)]
    unfold grp
    rw [dist_snoc, if_neg h, List.map_append]
    congr 1
    · refine List.map_congr_left fun k hk => ?_
      have ne : f x ≠ k := fun z => h (z ▸ hk)
      rw [List.filter_append, List.filter_cons_of_neg (by simpa using ne)]
      simp
    · rw [List.map_cons, List.filter_append, List.filter_cons_of_pos (by simp)]
      have : (xs.filter fun y => decide (f y = f x)) = [] := List.filter_eq_nil_iff.mpr fun y hy => by
        simp only [decide_eq_true_eq]
        exact fun z => h (dist_mem.mpr ⟨y, hy, z⟩)
      rw [this]
      rfl
theorem grp_small {α : Type} {f : α → NestedKey} {e : α → PyData} {xs : List α} (h : xs.length ≤ 100000) : gSmall (grp f e xs) = true := by
  unfold gSmall
  rw [Bool.and_eq_true]
  constructor
  · refine small_of ?_
    unfold grp
    rw [List.length_map]
    exact Nat.le_trans dist_len h
  · refine List.all_eq_true.mpr fun p hp => ?_
    obtain ⟨k, _, rfl⟩ := List.mem_map.mp hp
    refine small_of ?_
    rw [List.length_map]
    exact Nat.le_trans (List.length_filter_le _ _) h
/-! ### by_keys, in_windows -/
theorem byKeys_go {cs ks : PyData} {f : Rw × PyData → NestedKey} : ∀ (xs ys : List (Rw × PyData)), ys.length + xs.length ≤ 100000 → (∀ q ∈ xs, ∃ d, m_worths_of [cs, ks, .tuple q.1.vs] = some d ∧ toKey d = some (f q)) → byKeysGo cs ks (xs.map encL) (grp f encL ys) = some (grp f encL (ys ++ xs))
  | [], ys, _, _ => by
    rw [List.append_nil]
    rfl
  | q :: xs, ys, hl, h => by
    rw [List.length_cons] at hl
    obtain ⟨d, h1, h2⟩ := h q List.mem_cons_self
    have z := byKeys_go xs (ys ++ [q]) (by rw [List.length_append, List.length_singleton]; omega) fun p hp => h p (List.mem_cons_of_mem _ hp)
    rw [List.map_cons]
    show ((some (PyData.tuple q.1.vs)).bind _ : Option _) = _
    show (m_worths_of [cs, ks, .tuple q.1.vs]).bind _ = _
    rw [h1]
    show (toKey d).bind _ = _
    rw [h2]
    show (if gSmall (grp f encL ys) = true then byKeysGo cs ks (xs.map encL) (addG (grp f encL ys) (f q) (encL q)) else none) = _
    rw [if_pos (grp_small (by omega)), grp_add, z, List.append_assoc]
    rfl
theorem m_by_keys_eq {cs ks : PyData} {f : Rw × PyData → NestedKey} {xs : List (Rw × PyData)} (hl : xs.length ≤ 100000) (h : ∀ q ∈ xs, ∃ d, m_worths_of [cs, ks, .tuple q.1.vs] = some d ∧ toKey d = some (f q)) : m_by_keys [cs, ks, .list (xs.map encL)] = some (ndlD (grp f encL xs)) := by
  show (byKeysGo cs ks (xs.map encL) (grp f encL [])).bind _ = _
  rw [byKeys_go xs [] (by simpa using hl) h]
  rfl
theorem wins_go {wd : PyData} {f : Rw × PyData → NestedKey} : ∀ (xs ys : List (Rw × PyData)), ys.length + xs.length ≤ 100000 → (∀ q ∈ xs, ∃ d, m_spans_of [wd, .int q.1.t] = some (.list [d]) ∧ toKey d = some (f q)) → winsGo wd (xs.map encL) (grp f encL ys) = some (grp f encL (ys ++ xs))
  | [], ys, _, _ => by
    rw [List.append_nil]
    rfl
  | q :: xs, ys, hl, h => by
    rw [List.length_cons] at hl
    obtain ⟨d, h1, h2⟩ := h q List.mem_cons_self
    have z := wins_go xs (ys ++ [q]) (by rw [List.length_append, List.length_singleton]; omega) fun p hp => h p (List.mem_cons_of_mem _ hp)
    rw [List.map_cons]
    show (m_spans_of [wd, .int q.1.t]).bind _ = _
    rw [h1]
    show (winsAdd (encL q) [d] (grp f encL ys)).bind _ = _
    have w1 : winsAdd (encL q) [d] (grp f encL ys) = some (grp f encL (ys ++ [q])) := by
      show (toKey d).bind _ = _
      rw [h2]
      show (if gSmall (grp f encL ys) = true then some (addG (grp f encL ys) (f q) (encL q)) else none) = _
      rw [if_pos (grp_small (by omega)), grp_add]
    rw [w1]
    show winsGo wd (xs.map encL) (grp f encL (ys ++ [q])) = _
    rw [z, List.append_assoc]
    rfl
end Dl
end
section
set_option Elab.async false
set_option linter.all false
set_option autoImplicit false
set_option maxRecDepth 100000
set_option maxHeartbeats 2000000
/-! P5: windows, worths, sums of a group. -/
namespace Dl
open PySem
def winD (size : Int) : PyData := .tuple [.str "even", .int size]
def lowOf (size t : Int) : Int := t - t % size
def spanD (size b : Int) : PyData := .tuple [.int b, .int (b + size)]
def spanK (size b : Int) : NestedKey := .tup [.num b, .num (b + size)]
theorem span_key (size b : Int) : toKey (spanD size b) = some (spanK size b) := by
  show (if decide ((spanK size b).depth ≤ 8) = true then some (spanK size b) else none) = _
  rw [if_pos (by
    refine decide_eq_true ?_
    show NestedKey.depth (.tup [.num b, .num (b + size)]) ≤ 8
    simp [NestedKey.depth, NestedKey.depthAll])]
theorem low_bounds {size t : Int} (hs : 1 ≤ size) (ht : 0 ≤ t) : 0 ≤ lowOf size t ∧ lowOf size t ≤ t ∧ t < lowOf size t + size ∧ (lowOf size t) % size = 0 := by
  have h1 := Int.emod_nonneg t (show size ≠ 0 by omega)
  have h2 := Int.emod_lt_of_pos t (show 0 < size by omega)
  have h3 := Int.emod_add_mul_ediv t size
  have h4 : 0 ≤ t / size := Int.ediv_nonneg ht (by omega)
  have h5 : lowOf size t = size * (t / size) := by
    unfold lowOf
    omega
  have h6 : 0 ≤ size * (t / size) := Int.mul_nonneg (by omega) h4
  refine ⟨by omega, by unfold lowOf; omega, by unfold lowOf; omega, ?_⟩
  rw [h5]
  exact Int.mul_emod_right _ _
theorem one_turn {size t : Int} (hs : 1 ≤ size) (ht : 0 ≤ t) : turnsDown (lowOf size t) (if -1 > t - size then -1 else t - size) (-size) = 1 := by
  obtain ⟨b1, b2, b3, b4⟩ := low_bounds hs ht
  unfold turnsDown
  by_cases h : -1 > t - size
  · rw [if_pos h, if_neg (by omega)]
    have e : t % size = t := Int.emod_eq_of_lt ht (by omega)
    have e2 : lowOf size t = 0 := by
      unfold lowOf
      omega
    rw [e2]
    simp
  · rw [if_neg h, if_neg (by omega)]
    have e : (lowOf size t - (t - size) - 1) / (- -size) = 0 := by
      rw [Int.neg_neg]
      exact Int.ediv_eq_zero_of_lt (by omega) (by omega)
    rw [e]
    rfl
theorem m_spans_eq {size t : Int} (hs : 1 ≤ size) (hs2 : size ≤ 1000) (ht : 0 ≤ t) (ht2 : t ≤ 1000) : m_spans_of [winD size, .int t] = some (.list [spanD size (lowOf size t)]) := by
  obtain ⟨b1, b2, b3, b4⟩ := low_bounds hs ht
  have hmod : opMod (.int t) (.int size) = some (.int (t % size)) := by
    show (if decide (0 < size) = true then _ else _) = _
    rw [if_pos (decide_eq_true (by omega))]
  have hr : iRange3 (eVar 4) (e2 max2 (e2 opSub (eVar 1) (eVar 2)) (e1 opNeg (eC (.int 1)))) (e1 opNeg (eVar 3)) ⟨[.dat (winD size), .dat (.int t), .dat (.int size), .dat (.int size), .dat (.int (lowOf size t)), .un], none⟩ = some ([lowOf size t].map PyData.int, ⟨[.dat (winD size), .dat (.int t), .dat (.int size), .dat (.int size), .dat (.int (lowOf size t)), .un], none⟩) := by
    show (if (decide (-size < 0) && decide (-1073741824 < -size) && decide (-(2 ^ 60) ≤ lowOf size t) && decide (lowOf size t < 2 ^ 60) && decide (-(2 ^ 60) ≤ (if -1 > t - size then -1 else t - size)) && decide ((if -1 > t - size then -1 else t - size) < 2 ^ 60)) = true then some (downTo (lowOf size t) (-size) (turnsDown (lowOf size t) (if -1 > t - size then -1 else t - size) (-size)), (_ : DEnv)) else none) = _
    rw [if_pos, one_turn hs ht]
    · rfl
    · simp only [Bool.and_eq_true, decide_eq_true_eq]
      refine ⟨⟨⟨⟨⟨by omega, by omega⟩, by omega⟩, by omega⟩, ?_⟩, ?_⟩ <;> split <;> omega
  refine runC (ρ1 := ⟨[.dat (winD size), .dat (.int t), .dat (.int size), .dat (.int size), .dat (.int (lowOf size t)), .un], none⟩) (seqN (parC (s := .dat (.int size)) (s' := .dat (.int size)) (vDC (e2C (x := winD size) (y := .int 1) rfl rfl rfl)) (vDC (e2C (x := winD size) (y := .int (-1)) rfl rfl rfl))) (seqN (setVC (vDC (e2C (x := .int t) (z := .int (lowOf size t)) rfl (e2C (x := .int t) (y := .int size) rfl rfl hmod) rfl))) (retC (fzC ?_))))
  exact comp_all (e := PyData.int) (fun b => spanD size b) hr rfl fun b _ => ⟨[.int b], rfl, tupC (aC (x := .int b) rfl (aC (e2C (x := .int b) (y := .int size) (z := .int (b + size)) rfl rfl rfl) aN)) rfl⟩
theorem m_in_windows_eq {size : Int} {xs : List (Rw × PyData)} (hs : 1 ≤ size) (hs2 : size ≤ 1000) (hl : xs.length ≤ 100000) (ht : ∀ q ∈ xs, 0 ≤ q.1.t ∧ q.1.t ≤ 1000) : m_in_windows [winD size, .list (xs.map encL)] = some (ndlD (grp (fun q => spanK size (lowOf size q.1.t)) encL xs)) := by
  have z := wins_go (wd := winD size) (f := fun q => spanK size (lowOf size q.1.t)) xs [] (by simpa using hl) fun q hq => ⟨_, m_spans_eq hs hs2 (ht q hq).1 (ht q hq).2, span_key _ _⟩
  show (winsGo (winD size) (xs.map encL) (grp (fun q => spanK size (lowOf size q.1.t)) encL [])).bind _ = _
  rw [z]
  rfl
end Dl
end
section
set_option Elab.async false
set_option linter.all false
set_option autoImplicit false
set_option maxRecDepth 100000
set_option maxHeartbeats 2000000
/-! P6: worths, sums of pairs, lots joined. -/
namespace Dl
open PySem
def colsD (cs : List (Str × Str)) : PyData := .tuple (cs.map fun c => .tuple [.str c.1, .str c.2])
def namesOf (cs : List (Str × Str)) : List PyData := cs.map fun c => .str c.1
theorem places_eq {cs : List (Str × Str)} {ks vs : PyData} (h : cs.length ≤ 1000) : lComp (iDat (eVar 0)) [4, 5] (aTup [aName, aName]) [4, 5] tYes (eVar 4) ⟨[.dat (colsD cs), .dat ks, .dat vs, .un, .un, .un], none⟩ = some (namesOf cs, ⟨[.dat (colsD cs), .dat ks, .dat vs, .un, .un, .un], none⟩) :=
  comp_all (e := fun c : Str × Str => .tuple [.str c.1, .str c.2]) (fun c => .str c.1) rfl (small_of (by omega)) fun c _ => ⟨[.str c.1, .str c.2], rfl, rfl⟩
theorem m_worths_nil {cs : List (Str × Str)} {vs : PyData} (h : cs.length ≤ 1000) : m_worths_of [colsD cs, .tuple [], vs] = some (.tuple []) := by
  refine runC (seqN (setVC (vDC (fzC (places_eq h)))) (retC (e1C (fzC (comp_all (α := PyData) (e := id) (fun _ => .none) (xs := []) rfl rfl fun _ h => nomatch h)) rfl)))
theorem idx_who {cs : List (Str × Str)} {k : Str} : idxD (.list (namesOf (("who", k) :: cs))) (.str "who") = some (.int 0) := by
  have st : ∀ l : List (Str × Str), strsD (namesOf l) = some (l.map (·.1)) := fun l => by
    induction l with
    | nil => rfl
    | cons c l ih =>
      show (strsD (namesOf l)).bind _ = _
      rw [ih]
      rfl
  show (strsD (namesOf (("who", k) :: cs))).bind _ = _
  rw [st]
  show (((("who" : Str) :: cs.map (·.1)).findIdx? fun y => decide (y = ("who" : Str))).bind fun i => some (PyData.int (i : Nat))) = _
  rw [List.findIdx?_cons, if_pos (by simp)]
  rfl
theorem m_worths_who {cs : List (Str × Str)} {k : Str} {v : PyData} {vs : List PyData} (h : cs.length ≤ 900) : m_worths_of [colsD (("who", k) :: cs), .tuple [.str "who"], .tuple (v :: vs)] = some (.tuple [v]) := by
  refine runC (seqN (setVC (vDC (fzC (places_eq (by rw [List.length_cons]; omega))))) (retC (e1C (y := .tuple [v]) (fzC (comp_all (α := PyData) (e := id) (fun _ => v) (xs := [.str "who"]) rfl rfl fun d hd => ?_)) rfl)))
  rw [List.mem_singleton.mp hd]
  refine ⟨[.str "who"], rfl, e2C (x := .tuple (v :: vs)) (y := .int 0) rfl (e2C (x := .list (namesOf (("who", k) :: cs))) (y := .str "who") rfl rfl idx_who) ?_⟩
  show L2.atI (v :: vs) 0 = _
  unfold L2.atI
  rw [show L2.ixN (v :: vs).length 0 = some 0 by unfold L2.ixN; simp]
  rfl
/-! ### sums of pairs -/
def numOf : PyData → Int
  | .int i => i
  | _ => 0
/-- none or a number -/
def NumV (d : PyData) : Prop := d = .none ∨ ∃ i, d = .int i
theorem ints_map {α : Type} {f : α → Int} : ∀ xs : List α, intsD (xs.map fun x => .int (f x)) = some (xs.map f)
  | [] => rfl
  | x :: xs => by
    show (intsD (xs.map fun x => .int (f x))).bind _ = _
    rw [ints_map xs]
    rfl
theorem m_summed_count {α : Type} {v : α → PyData} {s : α → Int} {xs : List α} (h : xs.length ≤ 1000) : m_summed [.str "count", .list (xs.map fun x => .tuple [v x, .int (s x)])] = some (.int (xs.map s).sum) := by
  refine runC (seqR (ifT (tbC (e2C (x := .str "count") (y := .str "count") (z := .bool true) rfl rfl (by simp [opEq, oB, eqD]))) (retC (e1C (x := .list (xs.map fun x => .int (s x))) (fzC (comp_all (e := fun x => .tuple [v x, .int (s x)]) (fun x => .int (s x)) rfl (small_of (by omega)) fun x _ => ⟨[v x, .int (s x)], rfl, rfl⟩)) ?_))))
  · show (intsD (xs.map fun x => .int (s x))).bind _ = _
    rw [ints_map]
    rfl
theorem sum_filter {α : Type} {v : α → PyData} {s : α → Int} : ∀ {xs : List α}, (∀ x ∈ xs, NumV (v x)) → ((xs.filter fun x => match v x with | .none => false | _ => true).map fun x => numOf (v x) * s x).sum = (xs.map fun x => numOf (v x) * s x).sum
  | [], _ => rfl
  | x :: xs, h => by
    have ih := sum_filter (s := s) (xs := xs) fun y hy => h y (List.mem_cons_of_mem _ hy)
    rw [List.map_cons, List.sum_cons]
    rcases h x List.mem_cons_self with e | ⟨i, e⟩
    · rw [List.filter_cons_of_neg (by rw [e]; exact Bool.false_ne_true), ih, e]
      simp [numOf]
    · rw [List.filter_cons_of_pos (by rw [e]), List.map_cons, List.sum_cons, ih]
theorem m_summed_sum {α : Type} {v : α → PyData} {s : α → Int} {xs : List α} (h : xs.length ≤ 1000) (hv : ∀ x ∈ xs, NumV (v x)) (hs : ∀ x ∈ xs, fits64 (s x) = true) : m_summed [.str "sum", .list (xs.map fun x => .tuple [v x, .int (s x)])] = some (.int (xs.map fun x => numOf (v x) * s x).sum) := by
  refine runC (seqN (ifF (tbC (e2C (x := .str "sum") (y := .str "count") (z := .bool false) rfl rfl (by simp [opEq, oB, eqD]; decide))) rfl) (seqR (ifT (tbC (e2C (x := .str "sum") (y := .str "sum") (z := .bool true) rfl rfl (by simp [opEq, oB, eqD]))) (retC (e1C (x := .list ((xs.filter fun x => match v x with | .none => false | _ => true).map fun x => .int (numOf (v x) * s x))) (fzC (comp_pure (e := fun x => .tuple [v x, .int (s x)]) (fun x => match v x with | .none => false | _ => true) (fun x => .int (numOf (v x) * s x)) rfl (small_of (by omega)) fun x hx => ⟨[v x, .int (s x)], rfl, ?_, fun hb => ?_⟩)) ?_)))))
  · refine tbC (e2C (x := v x) (y := .none) rfl rfl ?_)
    rcases hv x hx with e | ⟨i, e⟩ <;> rw [e] <;> rfl
  · refine e2C (x := v x) (y := .int (s x)) rfl rfl ?_
    rcases hv x hx with e | ⟨i, e⟩
    · rw [e] at hb
      cases hb
    · rw [e]
      show (if (fits64 i || fits64 (s x)) = true then _ else _) = _
      rw [hs x hx, Bool.or_true, if_pos rfl]
      rfl
  · show (intsD ((xs.filter fun x => match v x with | .none => false | _ => true).map fun x => .int (numOf (v x) * s x))).bind _ = _
    rw [ints_map]
    show some (PyData.int _) = _
    rw [sum_filter hv]
end Dl
end
section
set_option Elab.async false
set_option linter.all false
set_option autoImplicit false
set_option maxRecDepth 100000
set_option maxHeartbeats 2000000
/-! P7: lots joined. -/
namespace Dl
open PySem
def IsEnt (d : PyData) : Prop := ∃ (x : Str) (i j : Int), d = .tuple [.str x, .int i, .int j]
def IsLot (d : PyData) : Prop := ∃ es, d = .tuple es ∧ ∀ e ∈ es, IsEnt e
def lotLen : PyData → Nat
  | .tuple es => es.length
  | _ => 0
theorem ents_alike {es : List PyData} (h : ∀ e ∈ es, IsEnt e) : alikeOk es = true := by
  unfold alikeOk
  simp only [Bool.and_eq_true]
  refine ⟨⟨List.all_eq_true.mpr fun d hd => List.all_eq_true.mpr fun e he => ?_, List.all_eq_true.mpr fun d hd => ?_⟩, List.all_eq_true.mpr fun d hd => ?_⟩
  · obtain ⟨x, i, j, rfl⟩ := h d hd
    obtain ⟨y, k, l, rfl⟩ := h e he
    rfl
  · obtain ⟨x, i, j, rfl⟩ := h d hd
    rfl
  · obtain ⟨x, i, j, rfl⟩ := h d hd
    rfl
theorem ents_flat {es : List PyData} (h : ∀ e ∈ es, IsEnt e) : es.all flatD = true := List.all_eq_true.mpr fun d hd => by
  obtain ⟨x, i, j, rfl⟩ := h d hd
  rfl
theorem lots_items : ∀ {ls : List PyData}, (∀ l ∈ ls, IsLot l) → ∃ es, lotItems ls = some es ∧ (∀ e ∈ es, IsEnt e) ∧ es.length = (ls.map lotLen).sum
  | [], _ => ⟨[], rfl, (fun e h => by cases h), rfl⟩
  | l :: ls, h => by
    obtain ⟨es, rfl, he⟩ := h l List.mem_cons_self
    obtain ⟨fs, h1, h2, h3⟩ := lots_items fun m hm => h m (List.mem_cons_of_mem _ hm)
    refine ⟨es ++ fs, ?_, fun e hm => (List.mem_append.mp hm).elim (he e) (h2 e), ?_⟩
    · show (lotItems ls).bind _ = _
      rw [h1]
      rfl
    · rw [List.length_append, List.map_cons, List.sum_cons, h3]
      rfl
theorem first_mem : ∀ {ds acc : List PyData} {d : PyData}, d ∈ firstOf ds acc → d ∈ ds ∨ d ∈ acc
  | [], acc, d, h => .inr h
  | x :: ds, acc, d, h => by
    rw [firstOf] at h
    split at h
    · exact (first_mem h).elim (fun z => .inl (List.mem_cons_of_mem _ z)) .inr
    · rcases first_mem h with z | z
      · exact .inl (List.mem_cons_of_mem _ z)
      · rcases List.mem_append.mp z with z | z
        · exact .inr z
        · exact .inl (by rw [List.mem_singleton.mp z]; exact List.mem_cons_self)
theorem first_len : ∀ {ds acc : List PyData}, (firstOf ds acc).length ≤ ds.length + acc.length
  | [], acc => by simp [firstOf]
  | x :: ds, acc => by
    rw [firstOf, List.length_cons]
    split
    · have := first_len (ds := ds) (acc := acc)
      omega
    · have := first_len (ds := ds) (acc := acc ++ [x])
      rw [List.length_append, List.length_singleton] at this
      omega
theorem m_together_eq {ls : List PyData} (h : ∀ l ∈ ls, IsLot l) (hn : (ls.map lotLen).sum < 64) : ∃ d, m_together [.list ls] = some d ∧ IsLot d ∧ lotLen d ≤ (ls.map lotLen).sum := by
  obtain ⟨es, h1, h2, h3⟩ := lots_items h
  refine ⟨.tuple ((firstOf es []).mergeSort (PySem.W.dataLe false fun e => e)), ?_, ⟨_, rfl, fun e he => ?_⟩, ?_⟩
  · refine runC (ρ1 := ⟨[.dat (.list ls), .un, .un], none⟩) (retC (e1C (x := .list ((firstOf es []).mergeSort (PySem.W.dataLe false fun e => e))) (fzC ?_) rfl))
    show (lotItems ls).bind _ = _
    rw [h1]
    show (if (alikeOk es && es.all flatD && decide (es.length < 64) && decide (2 < 3)) = true then _ else _) = _
    rw [if_pos]
    · rfl
    rw [ents_alike h2, ents_flat h2, decide_eq_true (show es.length < 64 by omega)]
    rfl
  · rcases first_mem ((List.mergeSort_perm _ _).mem_iff.mp he) with z | z
    · exact h2 e z
    · cases z
  · show ((firstOf es []).mergeSort (PySem.W.dataLe false fun e => e)).length ≤ _
    rw [List.length_mergeSort, ← h3]
    have := first_len (ds := es) (acc := [])
    simpa using this
/-- a list's sum, by groups -/
theorem sum_groups {α β : Type} [DecidableEq β] {f : α → β} {w : α → Nat} : ∀ (ks : List β) (xs : List α), ks.Nodup → (ks.map fun k => ((xs.filter fun x => decide (f x = k)).map w).sum).sum ≤ (xs.map w).sum
  | [], xs, _ => Nat.zero_le _
  | k :: ks, xs, h => by
    obtain ⟨h1, h2⟩ := List.nodup_cons.mp h
    have key : ∀ (P : α → Bool) (l : List α), ((l.filter P).map w).sum + ((l.filter fun x => !P x).map w).sum = (l.map w).sum := fun P l => by
      induction l with
      | nil => rfl
      | cons x l ih =>
        rw [List.map_cons, List.sum_cons]
        cases e : P x with
        | true =>
          rw [List.filter_cons_of_pos e, List.filter_cons_of_neg (by simp [e]), List.map_cons, List.sum_cons]
          omega
        | false =>
          rw [List.filter_cons_of_neg (by simp [e]), List.filter_cons_of_pos (by simp [e]), List.map_cons, List.sum_cons]
          omega
    have z := sum_groups (f := f) (w := w) ks (xs.filter fun x => !decide (f x = k)) h2
    have e : (ks.map fun j => (((xs.filter fun x => !decide (f x = k)).filter fun x => decide (f x = j)).map w).sum) = ks.map fun j => ((xs.filter fun x => decide (f x = j)).map w).sum := by
      refine List.map_congr_left fun j hj => ?_
      rw [List.filter_filter]
      congr 2
      refine List.filter_congr fun x _ => ?_
      by_cases q : f x = j
      · have : f x ≠ k := fun y => h1 (by rw [← y, q]; exact hj)
        simp [q, this]
        exact fun y => this (q.trans y)
      · simp [q]
    rw [e] at z
    rw [List.map_cons, List.sum_cons]
    have := key (fun x => decide (f x = k)) xs
    omega
end Dl
end
section
set_option Elab.async false
set_option linter.all false
set_option autoImplicit false
set_option maxRecDepth 100000
set_option maxHeartbeats 4000000
/-! P8: sums_of. -/
namespace Dl
open PySem
/-- one sum of a step: its name, how, the expression, the column that it reads -/
structure Sp3 where
  n : Str
  how : Str
  e : PyData
  col : Rw → PyData
def encS (s : Sp3) : PyData := .tuple [.str s.n, .str s.how, s.e]
def tot (s : Sp3) (line : List (Rw × PyData)) : Int := if s.how = ("count" : Str) then (line.map fun q => q.1.sg).sum else (line.map fun q => numOf (s.col q.1) * q.1.sg).sum
structure SpOk (cols : PyData) (s : Sp3) (rows : List (Rw × PyData)) : Prop where
  how : s.how = ("count" : Str) ∨ s.how = ("sum" : Str)
  worth : ∀ q ∈ rows, m_worth [cols, s.e, .tuple q.1.vs] = some (s.col q.1)
  num : ∀ q ∈ rows, NumV (s.col q.1)
  fits : ∀ q ∈ rows, fits64 q.1.sg = true
theorem SpOk.sub {cols : PyData} {s : Sp3} {rows line : List (Rw × PyData)} (h : SpOk cols s rows) (hl : ∀ q ∈ line, q ∈ rows) : SpOk cols s line := ⟨h.how, fun q hq => h.worth q (hl q hq), fun q hq => h.num q (hl q hq), fun q hq => h.fits q (hl q hq)⟩
theorem tot_eq {cols : PyData} {s : Sp3} {line : List (Rw × PyData)} (h : SpOk cols s line) (hl : line.length ≤ 1000) : m_summed [.str s.how, .list (line.map fun q => .tuple [s.col q.1, .int q.1.sg])] = some (.int (tot s line)) := by
  unfold tot
  rcases h.how with e | e
  · rw [if_pos e, e]
    exact m_summed_count (v := fun q : Rw × PyData => s.col q.1) (s := fun q => q.1.sg) hl
  · rw [if_neg (by rw [e]; decide), e]
    exact m_summed_sum (v := fun q : Rw × PyData => s.col q.1) (s := fun q => q.1.sg) hl h.num h.fits
/-- the environment of sums_of -/
def sE (cs st mk rs : PyData) (fnd : List PyData) (k5 k6 k7 k8 k9 : PyData) (k10 a11 a12 a13 : Sl) : DEnv := ⟨[.dat cs, .dat st, .dat mk, .dat rs, .lst fnd, .dat k5, .dat k6, .dat k7, .dat k8, .dat k9, k10, a11, a12, a13, .un, .un], none⟩
def NOwn (s : Sl) : Prop := s = .un ∨ ∃ d, s = .dat d
def toldG : G := sApp 10 (eCall m_summed (aCons (eVar 12) (aCons (eFz (lComp (iDat (eVar 9)) [14, 15] (aTup [aName, aName]) [14, 15] tYes (eTup (aCons (eCall m_worth (aCons (eVar 0) (aCons (eVar 13) (aCons (e2 ixD (eVar 14) (eC (.int 2))) aNil)))) (aCons (e2 ixD (eVar 14) (eC (.int 1))) aNil))))) aNil)))
theorem told_loop {cs st mk rs k5 k6 k7 k8 : PyData} {fnd : List PyData} {line : List (Rw × PyData)} (hl : line.length ≤ 1000) : ∀ (sps : List Sp3) (acc : List PyData) (a11 a12 a13 : Sl), acc.length + sps.length ≤ 1000 → (∀ s ∈ sps, SpOk cs s line) →
    ∃ b11 b12 b13, (NOwn a11 → NOwn a12 → NOwn a13 → NOwn b11 ∧ NOwn b12 ∧ NOwn b13) ∧ forGo [11, 12, 13] (aTup [aName, aName, aName]) toldG (sps.map encS) (sE cs st mk rs fnd k5 k6 k7 k8 (.list (line.map encL)) (.lst acc) a11 a12 a13) = some (.next, sE cs st mk rs fnd k5 k6 k7 k8 (.list (line.map encL)) (.lst (acc ++ sps.map fun s => .int (tot s line))) b11 b12 b13)
  | [], acc, a11, a12, a13, _, _ => ⟨a11, a12, a13, fun x y z => ⟨x, y, z⟩, by
    have e : acc ++ List.map (fun s => PyData.int (tot s line)) [] = acc := by simp
    rw [e]
    rfl⟩
  | s :: sps, acc, a11, a12, a13, hn, h => by
    rw [List.length_cons] at hn
    obtain ⟨b11, b12, b13, g, q⟩ := told_loop (cs := cs) (st := st) (mk := mk) (rs := rs) (k5 := k5) (k6 := k6) (k7 := k7) (k8 := k8) (fnd := fnd) hl sps (acc ++ [.int (tot s line)]) (.dat (.str s.n)) (.dat (.str s.how)) (.dat s.e) (by rw [List.length_append, List.length_singleton]; omega) fun t ht => h t (List.mem_cons_of_mem _ ht)
    have hs := h s List.mem_cons_self
    refine ⟨b11, b12, b13, fun _ _ _ => g (.inr ⟨_, rfl⟩) (.inr ⟨_, rfl⟩) (.inr ⟨_, rfl⟩), ?_⟩
    rw [List.map_cons]
    refine forCons (xs := [.str s.n, .str s.how, s.e]) rfl (ρ1 := sE cs st mk rs fnd k5 k6 k7 k8 (.list (line.map encL)) (.lst (acc ++ [.int (tot s line)])) (.dat (.str s.n)) (.dat (.str s.how)) (.dat s.e)) ?_ (by rw [List.append_assoc] at q; exact q)
    refine appC (x := .int (tot s line)) (l := acc) (ρ1 := sE cs st mk rs fnd k5 k6 k7 k8 (.list (line.map encL)) (.lst acc) (.dat (.str s.n)) (.dat (.str s.how)) (.dat s.e)) rfl (callC (aC (x := .str s.how) rfl (aC (fzC (comp_all (e := encL) (fun q => .tuple [s.col q.1, .int q.1.sg]) rfl (small_of (by omega)) fun q hq => ⟨[encR q.1, q.2], rfl, ?_⟩)) aN)) (tot_eq hs hl)) rfl (small_of (by omega))
    exact tupC (aC (callC (aC (x := cs) rfl (aC (x := s.e) rfl (aC (e2C (x := encR q.1) (y := .int 2) (z := .tuple q.1.vs) rfl rfl rfl) aN))) (hs.worth q hq)) (aC (e2C (x := encR q.1) (y := .int 1) (z := .int q.1.sg) rfl rfl rfl) aN)) rfl
end Dl
end
section
set_option Elab.async false
set_option linter.all false
set_option autoImplicit false
set_option maxRecDepth 100000
set_option maxHeartbeats 4000000
/-! P9: sums_of's loops. -/
namespace Dl
open PySem
def outRow (κ : List PyData) (size b : Int) (sps : List Sp3) (line : List (Rw × PyData)) : Rw := ⟨b + size - 1, 1, κ ++ ([.int b, .int (b + size)] ++ sps.map fun s => .int (tot s line))⟩
def due (mk e : Int) : Bool := decide (e ≤ mk) || decide (mk = 1000000000)
def wgt (xs : List (Rw × PyData)) : Nat := (xs.map fun q => lotLen q.2).sum
def LotsOk (xs : List (Rw × PyData)) : Prop := ∀ q ∈ xs, IsLot q.2
def outG : G := sApp 4 (eTup (aCons (eTup (aCons (e2 opSub (eVar 8) (eC (.int 1))) (aCons (eC (.int 1)) (aCons (eTup (aStar (eVar 5) (aCons (eVar 7) (aCons (eVar 8) (aStar (eVar 10) aNil))))) aNil)))) (aCons (eCall m_together (aCons (eFz (lComp (iDat (eVar 9)) [14, 15] (aTup [aName, aName]) [14, 15] tYes (eVar 15))) aNil)) aNil)))
def winG : G := sIf (tOr (tB (e2 opLe (eVar 8) (eVar 2))) (tB (e2 opEq (eVar 2) (eC (.int 1000000000))))) (sSeq (sSetV 10 (vL (lDisp aNil))) (sSeq (sFor (iDat (e2 ixD (eVar 1) (eC (.int 4)))) [11, 12, 13] (aTup [aName, aName, aName]) toldG) outG)) sNext
theorem due_test {mk e : Int} {cs st rs k5 k6 k7 k9 : PyData} {fnd : List PyData} {k10 a11 a12 a13 : Sl} : tOr (tB (e2 opLe (eVar 8) (eVar 2))) (tB (e2 opEq (eVar 2) (eC (.int 1000000000)))) (sE cs st (.int mk) rs fnd k5 k6 k7 (.int e) k9 k10 a11 a12 a13) = some (due mk e, sE cs st (.int mk) rs fnd k5 k6 k7 (.int e) k9 k10 a11 a12 a13) := by
  unfold tOr
  have h1 : tB (e2 opLe (eVar 8) (eVar 2)) (sE cs st (.int mk) rs fnd k5 k6 k7 (.int e) k9 k10 a11 a12 a13) = some (decide (e ≤ mk), sE cs st (.int mk) rs fnd k5 k6 k7 (.int e) k9 k10 a11 a12 a13) := tbC (e2C (x := .int e) (y := .int mk) rfl rfl rfl)
  have h2 : tB (e2 opEq (eVar 2) (eC (.int 1000000000))) (sE cs st (.int mk) rs fnd k5 k6 k7 (.int e) k9 k10 a11 a12 a13) = some (decide (mk = 1000000000), sE cs st (.int mk) rs fnd k5 k6 k7 (.int e) k9 k10 a11 a12 a13) := tbC (e2C (x := .int mk) (y := .int 1000000000) rfl rfl rfl)
  rw [h1]
  show (if decide (e ≤ mk) = true then some (true, _) else _) = _
  unfold due
  cases decide (e ≤ mk) with
  | true => rfl
  | false =>
    rw [if_neg Bool.false_ne_true]
    show tB (e2 opEq (eVar 2) (eC (.int 1000000000))) (sE cs st (.int mk) rs fnd k5 k6 k7 (.int e) k9 k10 a11 a12 a13) = _
    rw [h2]
    rfl
/-- one window's turn -/
theorem win_turn {cs st rs src ks wd : PyData} {mk size b : Int} {κ : List PyData} {k6 k9 : PyData} {fnd : List PyData} {sps : List Sp3} {line : List (Rw × PyData)} {k10 a11 a12 a13 : Sl} (hst : st = .tuple [.str "sum", src, ks, wd, .tuple (sps.map encS)]) (hl : line.length ≤ 1000) (hκ : κ.length ≤ 10) (hsp : sps.length ≤ 10) (hs : ∀ s ∈ sps, SpOk cs s line) (hlots : LotsOk line) (hw : wgt line < 64) (hf : fnd.length ≤ 90000) (n11 : NOwn a11) (n12 : NOwn a12) (n13 : NOwn a13) :
    ∃ outs k10' b11 b12 b13, NOwn b11 ∧ NOwn b12 ∧ NOwn b13 ∧ outs.map Prod.fst = (if due mk (b + size) then [outRow κ size b sps line] else []) ∧ LotsOk outs ∧ wgt outs ≤ wgt line ∧
      winG (sE cs st (.int mk) rs fnd (.tuple κ) k6 (.int b) (.int (b + size)) (.list (line.map encL)) k10 a11 a12 a13) = some (.next, sE cs st (.int mk) rs (fnd ++ outs.map encL) (.tuple κ) k6 (.int b) (.int (b + size)) (.list (line.map encL)) k10' b11 b12 b13) := by
  cases hd : due mk (b + size) with
  | false =>
    refine ⟨[], k10, a11, a12, a13, n11, n12, n13, by simp, (fun q h => by cases h), Nat.zero_le _, ?_⟩
    rw [List.map_nil, List.append_nil]
    exact ifF (by rw [due_test, hd]) rfl
  | true =>
    obtain ⟨lot, t1, t2, t3⟩ := m_together_eq (ls := line.map (·.2)) (fun l hm => by
      obtain ⟨q, hq, rfl⟩ := List.mem_map.mp hm
      exact hlots q hq) (by rw [List.map_map]; exact hw)
    rw [List.map_map] at t3
    obtain ⟨b11, b12, b13, g, q⟩ := told_loop (cs := cs) (st := st) (mk := .int mk) (rs := rs) (k5 := .tuple κ) (k6 := k6) (k7 := .int b) (k8 := .int (b + size)) (fnd := fnd) hl sps [] a11 a12 a13 (by simp; omega) hs
    obtain ⟨m11, m12, m13⟩ := g n11 n12 n13
    refine ⟨[(outRow κ size b sps line, lot)], .dat (.list (sps.map fun s => .int (tot s line))), b11, b12, b13, m11, m12, m13, by simp, (fun q h => by rw [List.mem_singleton.mp h]; exact t2), ?_, ?_⟩
    · show ([(outRow κ size b sps line, lot)].map fun q => lotLen q.2).sum ≤ _
      rw [List.map_cons, List.map_nil, List.sum_cons, List.sum_nil, Nat.add_zero]
      exact t3
    · refine ifT (by rw [due_test, hd]) (seqN (setVC (s := .lst []) rfl (ρ2 := sE cs st (.int mk) rs fnd (.tuple κ) k6 (.int b) (.int (b + size)) (.list (line.map encL)) (.lst []) a11 a12 a13)) (seqN (forC (ds := sps.map encS) (ρ1 := sE cs st (.int mk) rs fnd (.tuple κ) k6 (.int b) (.int (b + size)) (.list (line.map encL)) (.lst []) a11 a12 a13) (datC (d := .tuple (sps.map encS)) (e2C (x := st) (y := .int 4) rfl rfl (by rw [hst]; rfl)) rfl) q) ?_))
      rw [List.nil_append]
      refine appC (x := encL (outRow κ size b sps line, lot)) (l := fnd) (ρ1 := sE cs st (.int mk) rs fnd (.tuple κ) k6 (.int b) (.int (b + size)) (.list (line.map encL)) (.dat (.list (sps.map fun s => .int (tot s line)))) b11 b12 b13) rfl ?_ rfl (small_of (by omega))
      refine tupC (aC (x := encR (outRow κ size b sps line)) (ρ1 := sE cs st (.int mk) rs fnd (.tuple κ) k6 (.int b) (.int (b + size)) (.list (line.map encL)) (.dat (.list (sps.map fun s => .int (tot s line)))) b11 b12 b13) ?_ (aC (callC (aC (fzC (comp_all (e := encL) (fun q => q.2) rfl (small_of (by omega)) fun q hq => ⟨[encR q.1, q.2], rfl, rfl⟩)) aN) t1) aN)) rfl
      have ee : encR (outRow κ size b sps line) = .tuple [.int (b + size - 1), .int 1, .tuple (κ ++ (.int b :: .int (b + size) :: ((sps.map fun s => .int (tot s line)) ++ [])))] := by simp [encR, outRow]
      rw [ee]
      refine tupC (aC (e2C (x := .int (b + size)) (y := .int 1) (z := .int (b + size - 1)) rfl rfl rfl) (aC (x := .int 1) rfl (aC (tupC (aS (x := .tuple κ) rfl rfl (aC (x := .int b) rfl (aC (x := .int (b + size)) rfl (aS (x := .list (sps.map fun s => .int (tot s line))) rfl rfl aN)))) (small_of ?_)) aN))) rfl
      simp
      omega
end Dl
end
section
set_option Elab.async false
set_option linter.all false
set_option autoImplicit false
set_option maxRecDepth 100000
set_option maxHeartbeats 4000000
/-! P10: sums_of's two loops. -/
namespace Dl
open PySem
def sS (cs st mk rs : PyData) (fnd : List PyData) (s5 s6 s7 s8 s9 s10 a11 a12 a13 : Sl) : DEnv := ⟨[.dat cs, .dat st, .dat mk, .dat rs, .lst fnd, s5, s6, s7, s8, s9, s10, a11, a12, a13, .un, .un], none⟩
theorem distGo_inj {α β : Type} [DecidableEq β] {f : α → β} {h : β → NestedKey} (hi : ∀ a b, h a = h b → a = b) : ∀ (xs : List α) (acc : List β), distGo (fun x => h (f x)) xs (acc.map h) = (distGo f xs acc).map h
  | [], acc => rfl
  | x :: xs, acc => by
    rw [distGo, distGo]
    have e : h (f x) ∈ acc.map h ↔ f x ∈ acc := by
      rw [List.mem_map]
      exact ⟨fun ⟨a, ha, q⟩ => hi _ _ q ▸ ha, fun ha => ⟨_, ha, rfl⟩⟩
    by_cases q : f x ∈ acc
    · rw [if_pos (e.mpr q), if_pos q, distGo_inj hi]
    · rw [if_neg (fun z => q (e.mp z)), if_neg q, ← distGo_inj hi, List.map_append]
      rfl
theorem grp_inj {α β : Type} [DecidableEq β] {f : α → β} {h : β → NestedKey} (hi : ∀ a b, h a = h b → a = b) {e : α → PyData} {xs : List α} : grp (fun x => h (f x)) e xs = (dist f xs).map fun k => (h k, (xs.filter fun x => decide (f x = k)).map e) := by
  unfold grp dist
  have z := distGo_inj (f := f) hi xs []
  rw [List.map_nil] at z
  rw [z, List.map_map]
  refine List.map_congr_left fun k _ => ?_
  show (h k, _) = (h k, _)
  congr 2
  refine List.filter_congr fun x _ => ?_
  by_cases q : f x = k
  · simp [q]
  · rw [decide_eq_false q, decide_eq_false fun y => q (hi _ _ y)]
abbrev Ln := List (Rw × PyData)
def encW (size : Int) (w : Int × Ln) : PyData := .tuple [spanD size w.1, .list (w.2.map encL)]
def rowsW (κ : List PyData) (size mk : Int) (sps : List Sp3) (ws : List (Int × Ln)) : List Rw := (ws.filter fun w => due mk (w.1 + size)).map fun w => outRow κ size w.1 sps w.2
theorem win_loop {cs st rs src ks wd : PyData} {mk size : Int} {κ : List PyData} {k6 : PyData} {sps : List Sp3} (hst : st = .tuple [.str "sum", src, ks, wd, .tuple (sps.map encS)]) (hκ : κ.length ≤ 10) (hsp : sps.length ≤ 10) : ∀ (ws : List (Int × Ln)) (fnd : List PyData) (s7 s8 s9 s10 a11 a12 a13 : Sl), fnd.length + ws.length ≤ 90000 → (∀ w ∈ ws, w.2.length ≤ 1000 ∧ (∀ s ∈ sps, SpOk cs s w.2) ∧ LotsOk w.2 ∧ wgt w.2 < 64) →
    NOwn s7 → NOwn s8 → NOwn s9 → NOwn a11 → NOwn a12 → NOwn a13 →
    ∃ outs t7 t8 t9 t10 b11 b12 b13, NOwn t7 ∧ NOwn t8 ∧ NOwn t9 ∧ NOwn b11 ∧ NOwn b12 ∧ NOwn b13 ∧ outs.map Prod.fst = rowsW κ size mk sps ws ∧ LotsOk outs ∧ wgt outs ≤ (ws.map fun w => wgt w.2).sum ∧
      forGo [7, 8, 9] (aTup [aTup [aName, aName], aName]) winG (ws.map (encW size)) (sS cs st (.int mk) rs fnd (.dat (.tuple κ)) (.dat k6) s7 s8 s9 s10 a11 a12 a13) = some (.next, sS cs st (.int mk) rs (fnd ++ outs.map encL) (.dat (.tuple κ)) (.dat k6) t7 t8 t9 t10 b11 b12 b13)
  | [], fnd, s7, s8, s9, s10, a11, a12, a13, _, _, n7, n8, n9, n11, n12, n13 => ⟨[], s7, s8, s9, s10, a11, a12, a13, n7, n8, n9, n11, n12, n13, rfl, (fun q h => by cases h), Nat.le_refl _, by rw [List.map_nil, List.map_nil, List.append_nil]; rfl⟩
  | w :: ws, fnd, s7, s8, s9, s10, a11, a12, a13, hf, hw, n7, n8, n9, n11, n12, n13 => by
    rw [List.length_cons] at hf
    obtain ⟨g1, g2, g3, g4⟩ := hw w List.mem_cons_self
    obtain ⟨o1, t10, b11, b12, b13, m11, m12, m13, e1, l1, w1, st1⟩ := win_turn (cs := cs) (rs := rs) (b := w.1) (k6 := k6) (k9 := .none) (mk := mk) (size := size) (κ := κ) (fnd := fnd) hst g1 hκ hsp g2 g3 g4 (by omega) n11 n12 n13
    have ol : o1.length ≤ 1 := by
      have z := congrArg List.length e1
      rw [List.length_map] at z
      rw [z]
      split <;> simp
    obtain ⟨o2, u7, u8, u9, u10, c11, c12, c13, p7, p8, p9, p11, p12, p13, e2, l2, w2, st2⟩ := win_loop (mk := mk) (size := size) (rs := rs) (k6 := k6) hst hκ hsp ws (fnd ++ o1.map encL) (.dat (.int w.1)) (.dat (.int (w.1 + size))) (.dat (.list (w.2.map encL))) t10 b11 b12 b13 (by rw [List.length_append, List.length_map]; omega) (fun v hv => hw v (List.mem_cons_of_mem _ hv)) (.inr ⟨_, rfl⟩) (.inr ⟨_, rfl⟩) (.inr ⟨_, rfl⟩) m11 m12 m13
    refine ⟨o1 ++ o2, u7, u8, u9, u10, c11, c12, c13, p7, p8, p9, p11, p12, p13, ?_, fun q hq => (List.mem_append.mp hq).elim (l1 q) (l2 q), ?_, ?_⟩
    · rw [List.map_append, e1, e2]
      unfold rowsW
      cases q : due mk (w.1 + size) with
      | true => rw [if_pos rfl, List.filter_cons_of_pos (by exact q)]; rfl
      | false => rw [if_neg Bool.false_ne_true, List.filter_cons_of_neg (by rw [q]; exact Bool.false_ne_true)]; rfl
    · unfold wgt at *
      rw [List.map_append, List.sum_append, List.map_cons, List.sum_cons]
      omega
    · rw [List.map_cons, List.map_append, ← List.append_assoc]
      exact forCons (xs := [.int w.1, .int (w.1 + size), .list (w.2.map encL)]) rfl st1 st2
end Dl
end
section
set_option Elab.async false
set_option linter.all false
set_option autoImplicit false
set_option maxRecDepth 100000
set_option maxHeartbeats 4000000
/-! P11: sums_of. -/
namespace Dl
open PySem
/-- the windows of a group: low and what lies in it -/
def winsOf (size : Int) (xs : Ln) : List (Int × Ln) := (dist (fun q : Rw × PyData => lowOf size q.1.t) xs).map fun b => (b, xs.filter fun q => decide (lowOf size q.1.t = b))
theorem span_inj {size : Int} {a b : Int} (h : spanK size a = spanK size b) : a = b := by
  unfold spanK at h
  injection h with h
  injection h with h _
  injection h
theorem wins_items {size : Int} {xs : Ln} : (ndlD (grp (fun q : Rw × PyData => spanK size (lowOf size q.1.t)) encL xs)) = .dict ((winsOf size xs).map fun w => (spanD size w.1, .list (w.2.map encL))) := by
  rw [grp_inj (f := fun q : Rw × PyData => lowOf size q.1.t) (h := spanK size) fun _ _ => span_inj]
  unfold ndlD winsOf
  rw [List.map_map, List.map_map]
  rfl
theorem wins_wgt {size : Int} {xs : Ln} : ((winsOf size xs).map fun w => wgt w.2).sum ≤ wgt xs := by
  unfold winsOf
  rw [List.map_map]
  exact sum_groups (f := fun q : Rw × PyData => lowOf size q.1.t) (w := fun q => lotLen q.2) _ xs dist_nd
def keyG : G := sFor (iItems (eCall m_in_windows (aCons (e2 ixD (eVar 1) (eC (.int 3))) (aCons (eVar 6) aNil)))) [7, 8, 9] (aTup [aTup [aName, aName], aName]) winG
theorem iItemsC {a : M PyData} {ρ ρ1 : DEnv} {kvs : List (PyData × PyData)} (h : a ρ = some (.dict kvs, ρ1)) (hp : ∀ kv ∈ kvs, pairish [kv.1, kv.2] = false) : iItems a ρ = some (kvs.map fun kv => .tuple [kv.1, kv.2], ρ1) := by
  unfold iItems
  rw [h]
  show (if (kvs.all fun kv => !pairish [kv.1, kv.2]) = true then _ else _) = _
  rw [if_pos (List.all_eq_true.mpr fun kv hkv => by rw [hp kv hkv]; rfl)]
/-- what a group must be -/
structure LnOk (cs : PyData) (sps : List Sp3) (xs : Ln) : Prop where
  few : xs.length ≤ 1000
  sp : ∀ s ∈ sps, SpOk cs s xs
  lots : LotsOk xs
  light : wgt xs < 64
  time : ∀ q ∈ xs, 0 ≤ q.1.t ∧ q.1.t ≤ 1000
theorem wgt_filter (P : Rw × PyData → Bool) : ∀ xs : Ln, wgt (xs.filter P) ≤ wgt xs
  | [] => Nat.le_refl _
  | q :: xs => by
    have ih := wgt_filter P xs
    unfold wgt at *
    cases e : P q with
    | true =>
      rw [List.filter_cons_of_pos e, List.map_cons, List.map_cons, List.sum_cons, List.sum_cons]
      omega
    | false =>
      rw [List.filter_cons_of_neg (by simp [e]), List.map_cons, List.sum_cons]
      omega
theorem LnOk.filter {cs : PyData} {sps : List Sp3} {xs : Ln} (h : LnOk cs sps xs) (P : Rw × PyData → Bool) : LnOk cs sps (xs.filter P) :=
  ⟨Nat.le_trans (List.length_filter_le _ _) h.few, fun s hs => (h.sp s hs).sub fun q hq => (List.mem_filter.mp hq).1, fun q hq => h.lots q (List.mem_filter.mp hq).1, Nat.lt_of_le_of_lt (wgt_filter P xs) h.light, fun q hq => h.time q (List.mem_filter.mp hq).1⟩
theorem key_turn {cs st rs src ks : PyData} {mk size : Int} {κ : List PyData} {sps : List Sp3} {xs : Ln} (hst : st = .tuple [.str "sum", src, ks, winD size, .tuple (sps.map encS)]) (hs : 1 ≤ size) (hs2 : size ≤ 1000) (hκ : κ.length ≤ 10) (hsp : sps.length ≤ 10) (ok : LnOk cs sps xs) (fnd : List PyData) (s7 s8 s9 s10 a11 a12 a13 : Sl) (hf : fnd.length + xs.length ≤ 90000)
    (n7 : NOwn s7) (n8 : NOwn s8) (n9 : NOwn s9) (n11 : NOwn a11) (n12 : NOwn a12) (n13 : NOwn a13) :
    ∃ outs t7 t8 t9 t10 b11 b12 b13, NOwn t7 ∧ NOwn t8 ∧ NOwn t9 ∧ NOwn b11 ∧ NOwn b12 ∧ NOwn b13 ∧ outs.map Prod.fst = rowsW κ size mk sps (winsOf size xs) ∧ LotsOk outs ∧ wgt outs ≤ wgt xs ∧
      keyG (sS cs st (.int mk) rs fnd (.dat (.tuple κ)) (.dat (.list (xs.map encL))) s7 s8 s9 s10 a11 a12 a13) = some (.next, sS cs st (.int mk) rs (fnd ++ outs.map encL) (.dat (.tuple κ)) (.dat (.list (xs.map encL))) t7 t8 t9 t10 b11 b12 b13) := by
  have wl : (winsOf size xs).length ≤ xs.length := by
    unfold winsOf
    rw [List.length_map]
    exact dist_len
  obtain ⟨outs, t7, t8, t9, t10, b11, b12, b13, p7, p8, p9, p11, p12, p13, e, l, w, st2⟩ := win_loop (mk := mk) (size := size) (rs := rs) (k6 := .list (xs.map encL)) hst hκ hsp (winsOf size xs) fnd s7 s8 s9 s10 a11 a12 a13 (by omega) (fun v hv => by
    obtain ⟨b, _, rfl⟩ := List.mem_map.mp hv
    have z := ok.filter fun q => decide (lowOf size q.1.t = b)
    exact ⟨z.few, z.sp, z.lots, z.light⟩) n7 n8 n9 n11 n12 n13
  refine ⟨outs, t7, t8, t9, t10, b11, b12, b13, p7, p8, p9, p11, p12, p13, e, l, Nat.le_trans w wins_wgt, ?_⟩
  have hfew := ok.few
  have it := iItemsC (a := eCall m_in_windows (aCons (e2 ixD (eVar 1) (eC (.int 3))) (aCons (eVar 6) aNil))) (ρ := sS cs st (.int mk) rs fnd (.dat (.tuple κ)) (.dat (.list (xs.map encL))) s7 s8 s9 s10 a11 a12 a13) (kvs := (winsOf size xs).map fun w => (spanD size w.1, .list (w.2.map encL))) (callC (aC (e2C (x := st) (y := .int 3) (z := winD size) rfl rfl (by rw [hst]; rfl)) (aC (x := .list (xs.map encL)) rfl aN)) (by rw [m_in_windows_eq hs hs2 (by omega) ok.time, wins_items])) (fun kv hkv => by
    obtain ⟨w, _, rfl⟩ := List.mem_map.mp hkv
    rfl)
  rw [List.map_map] at it
  exact forC it st2
end Dl
end
section
set_option Elab.async false
set_option linter.all false
set_option autoImplicit false
set_option maxRecDepth 100000
set_option maxHeartbeats 4000000
/-! P12: m_sums_of. -/
namespace Dl
open PySem
def rowsK (size mk : Int) (sps : List Sp3) (gs : List (List NestedKey × Ln)) : List Rw := gs.flatMap fun g => rowsW (NestedKey.datas g.1) size mk sps (winsOf size g.2)
def encK (g : List NestedKey × Ln) : PyData := .tuple [.tuple (NestedKey.datas g.1), .list (g.2.map encL)]
theorem datas_len : ∀ ks : List NestedKey, (NestedKey.datas ks).length = ks.length
  | [] => rfl
  | k :: ks => by rw [NestedKey.datas, List.length_cons, List.length_cons, datas_len ks]
theorem key_loop {cs st rs src ks : PyData} {mk size : Int} {sps : List Sp3} (hst : st = .tuple [.str "sum", src, ks, winD size, .tuple (sps.map encS)]) (hs : 1 ≤ size) (hs2 : size ≤ 1000) (hsp : sps.length ≤ 10) : ∀ (gs : List (List NestedKey × Ln)) (fnd : List PyData) (s5 s6 s7 s8 s9 s10 a11 a12 a13 : Sl), fnd.length + (gs.map fun g => g.2.length).sum ≤ 80000 → (∀ g ∈ gs, LnOk cs sps g.2 ∧ g.1.length ≤ 10) →
    NOwn s7 → NOwn s8 → NOwn s9 → NOwn a11 → NOwn a12 → NOwn a13 →
    ∃ outs t5 t6 t7 t8 t9 t10 b11 b12 b13, outs.map Prod.fst = rowsK size mk sps gs ∧ LotsOk outs ∧ wgt outs ≤ (gs.map fun g => wgt g.2).sum ∧
      forGo [5, 6] (aTup [aName, aName]) keyG (gs.map encK) (sS cs st (.int mk) rs fnd s5 s6 s7 s8 s9 s10 a11 a12 a13) = some (.next, sS cs st (.int mk) rs (fnd ++ outs.map encL) t5 t6 t7 t8 t9 t10 b11 b12 b13)
  | [], fnd, s5, s6, s7, s8, s9, s10, a11, a12, a13, _, _, n7, n8, n9, n11, n12, n13 => ⟨[], s5, s6, s7, s8, s9, s10, a11, a12, a13, rfl, (fun q h => by cases h), Nat.le_refl _, by rw [List.map_nil, List.map_nil, List.append_nil]; rfl⟩
  | g :: gs, fnd, s5, s6, s7, s8, s9, s10, a11, a12, a13, hf, hg, n7, n8, n9, n11, n12, n13 => by
    rw [List.map_cons, List.sum_cons] at hf
    obtain ⟨ok, gl⟩ := hg g List.mem_cons_self
    obtain ⟨o1, t7, t8, t9, t10, b11, b12, b13, p7, p8, p9, p11, p12, p13, e1, l1, w1, st1⟩ := key_turn (mk := mk) (rs := rs) (κ := NestedKey.datas g.1) hst hs hs2 (by rw [datas_len]; exact gl) hsp ok fnd s7 s8 s9 s10 a11 a12 a13 (by omega) n7 n8 n9 n11 n12 n13
    have ol : o1.length ≤ g.2.length := by
      have z := congrArg List.length e1
      rw [List.length_map] at z
      rw [z]
      unfold rowsW
      rw [List.length_map]
      refine Nat.le_trans (List.length_filter_le _ _) ?_
      unfold winsOf
      rw [List.length_map]
      exact dist_len
    obtain ⟨o2, u5, u6, u7, u8, u9, u10, c11, c12, c13, e2, l2, w2, st2⟩ := key_loop (mk := mk) (size := size) (rs := rs) hst hs hs2 hsp gs (fnd ++ o1.map encL) (.dat (.tuple (NestedKey.datas g.1))) (.dat (.list (g.2.map encL))) t7 t8 t9 t10 b11 b12 b13 (by rw [List.length_append, List.length_map]; omega) (fun v hv => hg v (List.mem_cons_of_mem _ hv)) p7 p8 p9 p11 p12 p13
    refine ⟨o1 ++ o2, u5, u6, u7, u8, u9, u10, c11, c12, c13, ?_, fun q hq => (List.mem_append.mp hq).elim (l1 q) (l2 q), ?_, ?_⟩
    · rw [List.map_append, e1, e2]
      rfl
    · unfold wgt at *
      rw [List.map_append, List.sum_append, List.map_cons, List.sum_cons]
      omega
    · rw [List.map_cons, List.map_append, ← List.append_assoc]
      exact forCons (xs := [.tuple (NestedKey.datas g.1), .list (g.2.map encL)]) rfl st1 st2
/-- the groups of rows by key -/
def groupsOf (kn : Rw × PyData → List NestedKey) (xs : Ln) : List (List NestedKey × Ln) := (dist kn xs).map fun k => (k, xs.filter fun q => decide (kn q = k))
theorem groups_wgt {kn : Rw × PyData → List NestedKey} {xs : Ln} : ((groupsOf kn xs).map fun g => wgt g.2).sum ≤ wgt xs := by
  unfold groupsOf
  rw [List.map_map]
  exact sum_groups (f := kn) (w := fun q : Rw × PyData => lotLen q.2) _ xs dist_nd
theorem groups_len {kn : Rw × PyData → List NestedKey} {xs : Ln} : ((groupsOf kn xs).map fun g => g.2.length).sum ≤ xs.length := by
  have z := sum_groups (f := kn) (w := fun _ : Rw × PyData => 1) (dist kn xs) xs dist_nd
  have e : ∀ l : Ln, (l.map fun _ => 1).sum = l.length := fun l => by
    induction l with
    | nil => rfl
    | cons a l ih =>
      rw [List.map_cons, List.sum_cons, ih, List.length_cons]
      omega
  rw [e] at z
  unfold groupsOf
  rw [List.map_map]
  have e2 : ((dist kn xs).map fun k => ((xs.filter fun x => decide (kn x = k)).map fun _ => 1).sum) = (dist kn xs).map ((fun g : List NestedKey × Ln => g.2.length) ∘ fun k => (k, xs.filter fun q => decide (kn q = k))) := List.map_congr_left fun k _ => e _
  rw [← e2]
  exact z
theorem m_sums_eq {cs src ks : PyData} {mk size : Int} {sps : List Sp3} {xs : Ln} {kn : Rw × PyData → List NestedKey} (hs : 1 ≤ size) (hs2 : size ≤ 1000) (hsp : sps.length ≤ 10) (ok : LnOk cs sps xs) (hk : ∀ q ∈ xs, ∃ d, m_worths_of [cs, ks, .tuple q.1.vs] = some d ∧ toKey d = some (.tup (kn q))) (hk2 : ∀ q ∈ xs, (kn q).length ≤ 1) :
    ∃ outs, m_sums_of [cs, .tuple [.str "sum", src, ks, winD size, .tuple (sps.map encS)], .int mk, .list (xs.map encL)] = some (.list (outs.map encL)) ∧ outs.map Prod.fst = rowsK size mk sps (groupsOf kn xs) ∧ LotsOk outs ∧ wgt outs ≤ wgt xs := by
  have hf := ok.few
  have mem : ∀ g ∈ groupsOf kn xs, LnOk cs sps g.2 ∧ g.1.length ≤ 1 := fun g hg => by
    obtain ⟨k, hk, rfl⟩ := List.mem_map.mp hg
    obtain ⟨q, hq, e⟩ := dist_mem.mp hk
    exact ⟨ok.filter _, by rw [← e]; exact hk2 q hq⟩
  obtain ⟨outs, t5, t6, t7, t8, t9, t10, b11, b12, b13, e, l, w, st⟩ := key_loop (mk := mk) (size := size) (rs := .list (xs.map encL)) (sps := sps) (src := src) (ks := ks) (cs := cs) rfl hs hs2 hsp (groupsOf kn xs) [] .un .un .un .un .un .un .un .un .un (by have := groups_len (kn := kn) (xs := xs); simp only [List.length_nil]; omega) (fun g hg => ⟨(mem g hg).1, Nat.le_trans (mem g hg).2 (by omega)⟩) (.inl rfl) (.inl rfl) (.inl rfl) (.inl rfl) (.inl rfl) (.inl rfl)
  refine ⟨outs, ?_, e, l, Nat.le_trans w groups_wgt⟩
  have g0 : ndlD (grp (fun q => .tup (kn q)) encL xs) = .dict ((groupsOf kn xs).map fun g => (.tuple (NestedKey.datas g.1), .list (g.2.map encL))) := by
    rw [grp_inj (f := kn) (h := NestedKey.tup) fun _ _ h => by injection h]
    unfold ndlD groupsOf
    rw [List.map_map, List.map_map]
    refine congrArg PyData.dict (List.map_congr_left fun k _ => ?_)
    show (NestedKey.data (.tup k), _) = _
    rw [NestedKey.data]
    rfl
  have it := iItemsC (a := eCall m_by_keys (aCons (eVar 0) (aCons (e2 ixD (eVar 1) (eC (.int 2))) (aCons (eVar 3) aNil)))) (ρ := sS cs (.tuple [.str "sum", src, ks, winD size, .tuple (sps.map encS)]) (.int mk) (.list (xs.map encL)) [] .un .un .un .un .un .un .un .un .un) (kvs := (groupsOf kn xs).map fun g => (.tuple (NestedKey.datas g.1), .list (g.2.map encL))) (callC (aC (x := cs) rfl (aC (e2C (x := .tuple [.str "sum", src, ks, winD size, .tuple (sps.map encS)]) (y := .int 2) (z := ks) rfl rfl rfl) (aC (x := .list (xs.map encL)) rfl aN))) (by rw [m_by_keys_eq (by omega) hk, g0])) (fun kv hkv => by
    obtain ⟨g, hg, rfl⟩ := List.mem_map.mp hkv
    have hl := (mem g hg).2
    show pairish [.tuple (NestedKey.datas g.1), .list (g.2.map encL)] = false
    cases h1 : g.1 with
    | nil => rfl
    | cons a r =>
      rw [h1, List.length_cons] at hl
      have : r = [] := List.eq_nil_of_length_eq_zero (by omega)
      rw [this]
      cases a <;> rfl)
  rw [List.map_map] at it
  refine runC (seqN (setVC (s := .lst []) rfl (ρ2 := sS cs (.tuple [.str "sum", src, ks, winD size, .tuple (sps.map encS)]) (.int mk) (.list (xs.map encL)) [] .un .un .un .un .un .un .un .un .un)) (seqN (forC it st) (retC (a := eVar 4) (d := .list (outs.map encL)) rfl)))
end Dl
end
section
set_option Elab.async false
set_option linter.all false
set_option autoImplicit false
set_option maxRecDepth 100000
set_option maxHeartbeats 4000000
/-! P13: parts: late_of, of_source, mark_of. -/
namespace Dl
open PySem
inductive EntT
  | mark (m : Int)
  | row (r : Rw)
def encE : EntT → PyData
  | .mark m => .tuple [.str "mark", .int m]
  | .row r => .tuple [.str "row", .int r.t, .int r.sg, .tuple r.vs]
/-- no row below the marks ahead of it; k: the greatest mark so far -/
def LateFree : List EntT → Int → Prop
  | [], _ => True
  | .mark m :: es, k => LateFree es (if m > k then m else k)
  | .row r :: es, k => k ≤ r.t ∧ LateFree es k
def lateG : G := sIf (tB (e2 opEq (e2 ixD (eVar 4) (eC (.int 0))) (eC (.str "mark")))) (sSetV 2 (vD (e2 max2 (eVar 2) (e2 ixD (eVar 4) (eC (.int 1)))))) (sIf (tB (e2 opLt (e2 ixD (eVar 4) (eC (.int 1))) (eVar 2))) (sApp 1 (eVar 3)) sNext)
theorem opEq_tt {x : Str} : opEq (.str x) (.str x) = some (.bool true) := by simp [opEq, oB, eqD]
theorem opEq_rm : opEq (.str "row") (.str "mark") = some (.bool false) := by
  simp [opEq, oB, eqD]
  decide
theorem late_loop {p : PyData} : ∀ (es : List EntT) (n k : Int) (s3 s4 : Sl), LateFree es k → ∃ k' t3 t4, forGo [3, 4] (aTup [aName, aName]) lateG (numFrom n (es.map encE)) ⟨[.dat p, .lst [], .dat (.int k), s3, s4], none⟩ = some (.next, ⟨[.dat p, .lst [], .dat (.int k'), t3, t4], none⟩)
  | [], n, k, s3, s4, _ => ⟨k, s3, s4, rfl⟩
  | .mark m :: es, n, k, s3, s4, h => by
    obtain ⟨k', t3, t4, q⟩ := late_loop (p := p) es (n + 1) (if m > k then m else k) (.dat (.int n)) (.dat (encE (.mark m))) h
    refine ⟨k', t3, t4, forCons (d := .tuple [.int n, encE (.mark m)]) (xs := [.int n, encE (.mark m)]) rfl (ifT (tbC (e2C (x := .str "mark") (y := .str "mark") (e2C (x := encE (.mark m)) (y := .int 0) rfl rfl rfl) rfl opEq_tt)) (setVC (vDC (e2C (x := .int k) (y := .int m) (z := .int (if m > k then m else k)) rfl (e2C (x := encE (.mark m)) (y := .int 1) rfl rfl rfl) rfl)))) q⟩
  | .row r :: es, n, k, s3, s4, h => by
    obtain ⟨k', t3, t4, q⟩ := late_loop (p := p) es (n + 1) k (.dat (.int n)) (.dat (encE (.row r))) h.2
    refine ⟨k', t3, t4, forCons (d := .tuple [.int n, encE (.row r)]) (xs := [.int n, encE (.row r)]) rfl (ρ1 := ⟨[.dat p, .lst [], .dat (.int k), .dat (.int n), .dat (encE (.row r))], none⟩) (ifF (tbC (e2C (x := .str "row") (y := .str "mark") (e2C (x := encE (.row r)) (y := .int 0) rfl rfl rfl) rfl opEq_rm)) (ifF (tbC (e2C (x := .int r.t) (y := .int k) (e2C (x := encE (.row r)) (y := .int 1) rfl rfl rfl) rfl ?_)) rfl)) q⟩
    show some (PyData.bool (decide (r.t < k))) = _
    rw [decide_eq_false (by have := h.1; omega)]
theorem m_late_eq {es : List EntT} (h : LateFree es 0) : m_late_of [.tuple (es.map encE)] = some (.list []) := by
  obtain ⟨k', t3, t4, q⟩ := late_loop (p := .tuple (es.map encE)) es 0 0 .un .un h
  exact runC (seqN (parC (s := .lst []) (s' := .dat (.int 0)) rfl rfl) (seqN (forC rfl q) (retC (a := eVar 1) (d := .list []) rfl)))
end Dl
end
section
set_option Elab.async false
set_option linter.all false
set_option autoImplicit false
set_option maxRecDepth 100000
set_option maxHeartbeats 4000000
/-! P14: of_source. -/
namespace Dl
open PySem
/-- the rows of a part with their lots; j the part's number, p the place of the first entry -/
def rowsAt (name : Str) (j : Int) : List EntT → Int → Ln
  | [], _ => []
  | .mark _ :: es, p => rowsAt name j es (p + 1)
  | .row r :: es, p => (r, .tuple [.tuple [.str name, .int j, .int p]]) :: rowsAt name j es (p + 1)
def srcRows (name : Str) : List (List EntT) → Int → Ln
  | [], _ => []
  | es :: ps, j => rowsAt name j es 0 ++ srcRows name ps (j + 1)
def srcG1 : G := sIf (tAnd (tB (e2 opEq (e2 ixD (eVar 7) (eC (.int 0))) (eC (.str "row")))) (tB (e2 opNotIn (eVar 6) (eVar 5)))) (sApp 2 (eTup (aCons (e1 (slT (some 1) none) (eVar 7)) (aCons (eTup (aCons (eTup (aCons (eVar 0) (aCons (eVar 3) (aCons (eVar 6) aNil)))) aNil)) aNil)))) sNext
theorem opEq_mr : opEq (.str "mark") (.str "row") = some (.bool false) := by
  simp [opEq, oB, eqD]
  decide
theorem andC {a b : M Bool} {ρ ρ1 : DEnv} {q : Bool × DEnv} (h1 : a ρ = some (true, ρ1)) (h2 : b ρ1 = some q) : tAnd a b ρ = some q := by
  unfold tAnd
  rw [h1]
  exact h2
theorem andF {a b : M Bool} {ρ ρ1 : DEnv} (h1 : a ρ = some (false, ρ1)) : tAnd a b ρ = some (false, ρ1) := by
  unfold tAnd
  rw [h1]
  rfl
theorem part_loop {nm : Str} {ps : PyData} {j : Int} {part : PyData} : ∀ (es : List EntT) (p : Int) (fnd : Ln) (s6 s7 : Sl), fnd.length + es.length ≤ 90000 → ∃ t6 t7, forGo [6, 7] (aTup [aName, aName]) srcG1 (numFrom p (es.map encE)) ⟨[.dat (.str nm), .dat ps, .lst (fnd.map encL), .dat (.int j), .dat part, .dat (.list []), s6, s7], none⟩ = some (.next, ⟨[.dat (.str nm), .dat ps, .lst ((fnd ++ rowsAt nm j es p).map encL), .dat (.int j), .dat part, .dat (.list []), t6, t7], none⟩)
  | [], p, fnd, s6, s7, _ => ⟨s6, s7, by rw [rowsAt, List.append_nil]; rfl⟩
  | .mark m :: es, p, fnd, s6, s7, hl => by
    rw [List.length_cons] at hl
    obtain ⟨t6, t7, q⟩ := part_loop (nm := nm) (ps := ps) (j := j) (part := part) es (p + 1) fnd (.dat (.int p)) (.dat (encE (.mark m))) (by omega)
    exact ⟨t6, t7, forCons (d := .tuple [.int p, encE (.mark m)]) (xs := [.int p, encE (.mark m)]) rfl (ifF (andF (tbC (e2C (x := .str "mark") (y := .str "row") (e2C (x := encE (.mark m)) (y := .int 0) rfl rfl rfl) rfl opEq_mr))) rfl) q⟩
  | .row r :: es, p, fnd, s6, s7, hl => by
    rw [List.length_cons] at hl
    obtain ⟨t6, t7, q⟩ := part_loop (nm := nm) (ps := ps) (j := j) (part := part) es (p + 1) (fnd ++ [(r, .tuple [.tuple [.str nm, .int j, .int p]])]) (.dat (.int p)) (.dat (encE (.row r))) (by rw [List.length_append, List.length_singleton]; omega)
    rw [List.append_assoc] at q
    refine ⟨t6, t7, forCons (d := .tuple [.int p, encE (.row r)]) (xs := [.int p, encE (.row r)]) rfl (ifT (andC (tbC (e2C (x := .str "row") (y := .str "row") (e2C (x := encE (.row r)) (y := .int 0) rfl rfl rfl) rfl opEq_tt)) (tbC (e2C (x := .int p) (y := .list []) (z := .bool true) rfl rfl rfl))) (appC (l := fnd.map encL) (x := encL (r, .tuple [.tuple [.str nm, .int j, .int p]])) (ρ1 := ⟨[.dat (.str nm), .dat ps, .lst (fnd.map encL), .dat (.int j), .dat part, .dat (.list []), .dat (.int p), .dat (encE (.row r))], none⟩) rfl ?_ rfl (small_of (by rw [List.length_map]; omega)) (by rw [List.map_append]; rfl))) q⟩
    exact tupC (aC (e1C (x := encE (.row r)) (y := encR r) rfl rfl) (aC (tupC (aC (tupC (aC (x := .str nm) rfl (aC (x := .int j) rfl (aC (x := .int p) rfl aN))) rfl) aN) rfl) aN)) rfl
def srcG : G := sSeq (sSetV 5 (vD (eCall m_late_of (aCons (eVar 4) aNil)))) (sFor (iEnum (eVar 4)) [6, 7] (aTup [aName, aName]) srcG1)
theorem rowsAt_len {nm : Str} {j : Int} : ∀ (es : List EntT) (p : Int), (rowsAt nm j es p).length ≤ es.length
  | [], p => Nat.le_refl _
  | .mark m :: es, p => by
    have := rowsAt_len (nm := nm) (j := j) es (p + 1)
    rw [rowsAt, List.length_cons]
    omega
  | .row r :: es, p => by
    have := rowsAt_len (nm := nm) (j := j) es (p + 1)
    rw [rowsAt, List.length_cons, List.length_cons]
    omega
theorem src_loop {nm : Str} {ps : PyData} : ∀ (parts : List (List EntT)) (j : Int) (fnd : Ln) (s3 s4 s5 s6 s7 : Sl), (∀ es ∈ parts, LateFree es 0) → fnd.length + (parts.map List.length).sum ≤ 90000 → ∃ t3 t4 t5 t6 t7, forGo [3, 4] (aTup [aName, aName]) srcG (numFrom j (parts.map fun es => .tuple (es.map encE))) ⟨[.dat (.str nm), .dat ps, .lst (fnd.map encL), s3, s4, s5, s6, s7], none⟩ = some (.next, ⟨[.dat (.str nm), .dat ps, .lst ((fnd ++ srcRows nm parts j).map encL), t3, t4, t5, t6, t7], none⟩)
  | [], j, fnd, s3, s4, s5, s6, s7, _, _ => ⟨s3, s4, s5, s6, s7, by rw [srcRows, List.append_nil]; rfl⟩
  | es :: parts, j, fnd, s3, s4, s5, s6, s7, h, hl => by
    rw [List.map_cons, List.sum_cons] at hl
    obtain ⟨u6, u7, q1⟩ := part_loop (nm := nm) (ps := ps) (j := j) (part := .tuple (es.map encE)) es 0 fnd s6 s7 (by omega)
    have := rowsAt_len (nm := nm) (j := j) es 0
    obtain ⟨t3, t4, t5, t6, t7, q2⟩ := src_loop (nm := nm) (ps := ps) parts (j + 1) (fnd ++ rowsAt nm j es 0) (.dat (.int j)) (.dat (.tuple (es.map encE))) (.dat (.list [])) u6 u7 (fun e he => h e (List.mem_cons_of_mem _ he)) (by rw [List.length_append]; omega)
    rw [List.append_assoc] at q2
    exact ⟨t3, t4, t5, t6, t7, forCons (d := .tuple [.int j, .tuple (es.map encE)]) (xs := [.int j, .tuple (es.map encE)]) rfl (seqN (setVC (vDC (callC (aC (x := .tuple (es.map encE)) rfl aN) (m_late_eq (h es List.mem_cons_self))))) (forC (ds := numFrom 0 (es.map encE)) rfl q1)) q2⟩
theorem m_source_eq {nm : Str} {parts : List (List EntT)} (h : ∀ es ∈ parts, LateFree es 0) (hl : (parts.map List.length).sum ≤ 90000) : m_of_source [.str nm, .tuple (parts.map fun es => .tuple (es.map encE))] = some (.list ((srcRows nm parts 0).map encL)) := by
  obtain ⟨t3, t4, t5, t6, t7, q⟩ := src_loop (nm := nm) (ps := .tuple (parts.map fun es => .tuple (es.map encE))) parts 0 [] .un .un .un .un .un h (by simpa using hl)
  generalize hps : parts.map (fun es => PyData.tuple (es.map encE)) = pd at q ⊢
  exact runC (seqN (setVC (s := .lst []) rfl (ρ2 := ⟨[.dat (.str nm), .dat (.tuple pd), .lst (List.map encL []), .un, .un, .un, .un, .un], none⟩)) (seqN (forC (ds := numFrom 0 pd) (ρ1 := ⟨[.dat (.str nm), .dat (.tuple pd), .lst (List.map encL []), .un, .un, .un, .un, .un], none⟩) rfl q) (retC (a := eVar 2) (d := .list ((srcRows nm parts 0).map encL)) rfl)))
end Dl
end
section
set_option Elab.async false
set_option linter.all false
set_option autoImplicit false
set_option maxRecDepth 100000
set_option maxHeartbeats 4000000
/-! P15: marks of parts. -/
namespace Dl
open PySem
def isMk : EntT → Bool
  | .mark _ => true
  | .row _ => false
def mkOf : EntT → Int
  | .mark m => m
  | .row _ => 0
def marksIn (es : List EntT) : List Int := (es.filter isMk).map mkOf
/-- the part's mark -/
def markP (es : List EntT) : Int := maxI 0 (marksIn es)
theorem marks_comp {k : Nat} {es : List EntT} (h : es.length ≤ 1000) : lComp (iDat (eVar 0)) [1] aName [1] (tB (e2 opEq (e2 ixD (eVar 1) (eC (.int 0))) (eC (.str "mark")))) (e2 ixD (eVar 1) (eC (.int 1))) ⟨[.dat (.tuple (es.map encE)), .un], none⟩ = some ((es.filter isMk).map fun e => .int (mkOf e), ⟨[.dat (.tuple (es.map encE)), .un], none⟩) := by
  refine comp_pure (e := encE) isMk (fun e => .int (mkOf e)) rfl (small_of (by omega)) fun e _ => ⟨[encE e], rfl, ?_, fun hb => ?_⟩
  · cases e with
    | mark m => exact tbC (e2C (x := .str "mark") (y := .str "mark") (e2C (x := encE (.mark m)) (y := .int 0) rfl rfl rfl) rfl opEq_tt)
    | row r => exact tbC (e2C (x := .str "row") (y := .str "mark") (e2C (x := encE (.row r)) (y := .int 0) rfl rfl rfl) rfl opEq_rm)
  · cases e with
    | mark m => exact e2C (x := encE (.mark m)) (y := .int 1) rfl rfl rfl
    | row r => cases hb
theorem maxI_pos {m : Int} {r : List Int} (h : 0 ≤ m) : maxI 0 (m :: r) = maxI m r := by
  rw [maxI]
  by_cases e : m > 0
  · rw [if_pos e]
  · rw [if_neg e, show m = 0 by omega]
theorem m_mark_eq {es : List EntT} (h : es.length ≤ 1000) (hm : ∀ m ∈ marksIn es, 0 ≤ m) : m_mark_of [.tuple (es.map encE)] = some (.int (markP es)) := by
  refine runC (retC (e2C (x := .list ((es.filter isMk).map fun e => .int (mkOf e))) (y := .int 0) (fzC (marks_comp (k := 0) h)) rfl ?_))
  have e0 : (es.filter isMk).map (fun e => PyData.int (mkOf e)) = (es.filter isMk).map fun e => .int (mkOf e) := rfl
  show (intsD ((es.filter isMk).map fun e => .int (mkOf e))).bind _ = _
  rw [ints_map]
  show (match (es.filter isMk).map mkOf with | [] => some (PyData.int 0) | m :: r => some (.int (maxI m r))) = _
  unfold markP
  unfold marksIn at hm ⊢
  cases q : (es.filter isMk).map mkOf with
  | nil => rfl
  | cons m r =>
    rw [q] at hm
    rw [maxI_pos (hm m List.mem_cons_self)]
end Dl
end
section
set_option Elab.async false
set_option linter.all false
set_option autoImplicit false
set_option maxRecDepth 100000
set_option maxHeartbeats 4000000
/-! P16: the least of marks; _law_mark_of. -/
namespace Dl
open PySem
theorem minI_le0 : ∀ (r : List Int) (m : Int), minI m r ≤ m
  | [], m => Int.le_refl _
  | x :: r, m => by
    rw [minI]
    split
    · have := minI_le0 r x
      omega
    · exact minI_le0 r m
/-- the marks' least: law's _law_mark_of adds 10^9, the program's has it as default -/
theorem minI_snoc : ∀ (r : List Int) (m e : Int), m ≤ e → minI m (r ++ [e]) = minI m r
  | [], m, e, h => by
    rw [List.nil_append, minI, minI, minI, if_neg (by omega)]
  | x :: r, m, e, h => by
    rw [List.cons_append, minI, minI]
    by_cases q : x < m
    · rw [if_pos q, minI_snoc r x e (by omega)]
    · rw [if_neg q, minI_snoc r m e h]
def partsD (parts : List (List EntT)) : PyData := .tuple (parts.map fun es => .tuple (es.map encE))
def markL : List (List EntT) → Int
  | [] => 1000000000
  | es :: ps => minI (markP es) (ps.map markP)
theorem lmark_inner {ps : PyData} {s : Sl} {es : List EntT} (h : es.length ≤ 1000) : lComp (iDat (eVar 2)) [3] aName [3] (tB (e2 opEq (e2 ixD (eVar 3) (eC (.int 0))) (eC (.str "mark")))) (e2 ixD (eVar 3) (eC (.int 1))) ⟨[.dat ps, s, .dat (.tuple (es.map encE)), .un], none⟩ = some ((es.filter isMk).map fun e => .int (mkOf e), ⟨[.dat ps, s, .dat (.tuple (es.map encE)), .un], none⟩) := by
  refine comp_pure (e := encE) isMk (fun e => .int (mkOf e)) rfl (small_of (by omega)) fun e _ => ⟨[encE e], rfl, ?_, fun hb => ?_⟩
  · cases e with
    | mark m => exact tbC (e2C (x := .str "mark") (y := .str "mark") (e2C (x := encE (.mark m)) (y := .int 0) rfl rfl rfl) rfl opEq_tt)
    | row r => exact tbC (e2C (x := .str "row") (y := .str "mark") (e2C (x := encE (.row r)) (y := .int 0) rfl rfl rfl) rfl opEq_rm)
  · cases e with
    | mark m => exact e2C (x := encE (.mark m)) (y := .int 1) rfl rfl rfl
    | row r => cases hb
theorem addC {a b : M PyData} {xs ys : List PyData} {ρ ρ1 ρ2 : DEnv} (h1 : a ρ = some (.list xs, ρ1)) (h2 : b ρ1 = some (.list ys, ρ2)) (hs : small (xs.length + ys.length) = true) : lAdd a b ρ = some (xs ++ ys, ρ2) := by
  unfold lAdd
  rw [h1]
  show (b ρ1).bind _ = _
  rw [h2]
  show (if small (xs.length + ys.length) = true then _ else _) = _
  rw [if_pos hs]
theorem m_lmark_eq {es : List EntT} {parts : List (List EntT)} (hp : parts.length ≤ 100) (h : ∀ p ∈ es :: parts, p.length ≤ 1000 ∧ markP p ≤ 1000000000) : m_law_mark_of [partsD (es :: parts)] = some (.int (markL (es :: parts))) := by
  refine runC (seqN (setVC (vDC (fzC (comp_all (e := fun p : List EntT => .tuple (p.map encE)) (fun p => .int (markP p)) (xs := es :: parts) rfl (small_of (by rw [List.length_cons]; omega)) fun p hm => ⟨[.tuple (p.map encE)], rfl, e1C (fzC (addC (xs := [.int 0]) (fzC (dispC (aC (x := .int 0) rfl aN) rfl)) (fzC (lmark_inner (h p hm).1)) (small_of ?_))) ?_⟩)))) (retC (e1C (x := .list ((es :: parts).map (fun p => .int (markP p)) ++ [.int 1000000000])) (fzC (addC (xs := (es :: parts).map fun p => .int (markP p)) (ys := [.int 1000000000]) rfl (fzC (dispC (aC (e2C (x := .int 10) (y := .int 9) (z := .int 1000000000) rfl rfl (by rfl)) aN) rfl)) (small_of ?_))) ?_)))
  · rw [List.length_map]
    have := List.length_filter_le isMk p
    have := (h p hm).1
    simp only [List.length_cons, List.length_nil]
    omega
  · show (intsD (PyData.int 0 :: (p.filter isMk).map fun e => .int (mkOf e))).bind _ = _
    have z : intsD (PyData.int 0 :: (p.filter isMk).map fun e => .int (mkOf e)) = some (0 :: marksIn p) := by
      show (intsD ((p.filter isMk).map fun e => .int (mkOf e))).bind _ = _
      rw [ints_map]
      rfl
    rw [z]
    rfl
  · rw [List.length_map, List.length_cons, List.length_singleton]
    omega
  · have z : intsD ((es :: parts).map (fun p => PyData.int (markP p)) ++ [.int 1000000000]) = some ((es :: parts).map markP ++ [1000000000]) := by
      have e : (es :: parts).map (fun p => PyData.int (markP p)) ++ [.int 1000000000] = ((es :: parts).map markP ++ [1000000000]).map fun i => .int i := by
        rw [List.map_append, List.map_map]
        rfl
      rw [e, ints_map, List.map_id']
    show (intsD ((es :: parts).map (fun p => PyData.int (markP p)) ++ [.int 1000000000])).bind _ = _
    rw [z]
    show some (PyData.int (minI (markP es) (parts.map markP ++ [1000000000]))) = _
    rw [minI_snoc _ _ _ (h es List.mem_cons_self).2]
    rfl
end Dl
end
section
set_option Elab.async false
set_option linter.all false
set_option autoImplicit false
set_option maxRecDepth 100000
set_option maxHeartbeats 4000000
/-! P17: what is picked. -/
namespace Dl
open PySem
theorem pickI_bd {most : Int} {S : Src} (h : 1 ≤ most) : 0 ≤ (pickI most S).1 ∧ (pickI most S).1 < most := by
  unfold pickI
  by_cases h2 : most < 2
  · rw [if_pos h2]
    exact ⟨Int.le_refl 0, by show (0 : Int) < most; omega⟩
  · rw [if_neg h2]
    dsimp only
    split
    · exact ⟨Int.emod_nonneg _ (by omega), Int.emod_lt_of_pos _ (by omega)⟩
    · exact ⟨Int.emod_nonneg _ (by omega), Int.emod_lt_of_pos _ (by omega)⟩
theorem pick_ok {most : Int} (S : Src) (h : 1 ≤ most) (h2 : most < 1073741824) : ∃ k S', m_law_pick [.int most] S = some (.int k, S') ∧ 0 ≤ k ∧ k < most := by
  refine ⟨(pickI most S).1, (pickI most S).2, ?_, (pickI_bd h).1, (pickI_bd h).2⟩
  show (if decide (most < 1073741824) = true then _ else _) = _
  rw [if_pos (decide_eq_true h2)]
/-- a pick in an environment whose first slot is the source -/
theorem pickC {i : Nat} {a : M PyData} {sl : List Sl} {S : Src} {sl1 : List Sl} {S1 : Src} {most : Int} (hi : sl[i]? = some .src) (h : a ⟨sl, some S⟩ = some (.int most, ⟨sl1, some S1⟩)) (h1 : 1 ≤ most) (h2 : most < 1073741824) : ∃ k S', 0 ≤ k ∧ k < most ∧ eCallS i m_law_pick (aCons a aNil) ⟨sl, some S⟩ = some (.int k, ⟨sl1, some S'⟩) := by
  obtain ⟨k, S', e, b1, b2⟩ := pick_ok S1 h1 h2
  refine ⟨k, S', b1, b2, ?_⟩
  unfold eCallS
  rw [if_pos (by unfold isS; rw [hi]), aC h aN]
  show (m_law_pick [.int most] S1).bind _ = _
  rw [e]
  rfl
end Dl
end
section
set_option Elab.async false
set_option linter.all false
set_option autoImplicit false
set_option maxRecDepth 100000
set_option maxHeartbeats 4000000
/-! P18: drawn rows. -/
namespace Dl
open PySem
/-- a drawn row -/
structure Drawn (r : Rw) : Prop where
  vs : ∃ w n, r.vs = [w, n] ∧ (w = .none ∨ ∃ x, w = .str x) ∧ NumV n
  t0 : 0 ≤ r.t
  t1 : r.t ≤ 19
  sg : r.sg = 1 ∨ r.sg = -1
theorem atI_list {ds : List PyData} {k : Int} (h0 : 0 ≤ k) (h1 : k < ds.length) : ∃ d, L2.atI ds k = some d ∧ d ∈ ds := by
  have hk : k.toNat < ds.length := by omega
  refine ⟨ds[k.toNat], ?_, List.getElem_mem hk⟩
  unfold L2.atI L2.ixN
  rw [if_pos h0, if_pos h1]
  show ds[k.toNat]? = _
  exact List.getElem?_eq_getElem hk
theorem ixC {l : List PyData} {a b : M PyData} {ρ ρ1 ρ2 : DEnv} {k : Int} (h1 : a ρ = some (.list l, ρ1)) (h2 : b ρ1 = some (.int k, ρ2)) (h3 : 0 ≤ k) (h4 : k < l.length) : ∃ d, d ∈ l ∧ e2 ixD a b ρ = some (d, ρ2) := by
  obtain ⟨d, e, m⟩ := atI_list h3 h4
  exact ⟨d, m, e2C h1 h2 e⟩
/-- the environment of _law_draw_rows -/
def rE (S : Src) (many : Int) (fnd : List Rw) (s4 s5 s6 s7 : Sl) : DEnv := ⟨[.src, .dat (.int many), .dat (.int 0), .lst (fnd.map encR), s4, s5, s6, s7], some S⟩
def whoE : M PyData := e2 ixD (eFz (lDisp (aCons (eC .none) (aCons (eC (.str "a")) (aCons (eC (.str "b")) (aCons (eC (.str "c")) aNil)))))) (eCallS 0 m_law_pick (aCons (eC (.int 4)) aNil))
def numE : M PyData := e2 ixD (eFz (lDisp (aCons (eC .none) (aCons (eC (.int 0)) (aCons (eC (.int 3)) (aCons (e2 opSub (eC (.int 0)) (eC (.int 5))) (aCons (eC (.int 3)) (aCons (e2 opPow (eC (.int 10)) (eC (.int 11))) aNil)))))))) (eCallS 0 m_law_pick (aCons (eC (.int 6)) aNil))
theorem who_ok {S : Src} {many : Int} {fnd : List Rw} {s4 s5 s6 s7 : Sl} : ∃ w S', (w = PyData.none ∨ ∃ x, w = .str x) ∧ whoE (rE S many fnd s4 s5 s6 s7) = some (w, rE S' many fnd s4 s5 s6 s7) := by
  obtain ⟨k, S', b1, b2, e⟩ := pickC (i := 0) (a := eC (.int 4)) (sl := (rE S many fnd s4 s5 s6 s7).sl) (S := S) (S1 := S) (sl1 := (rE S many fnd s4 s5 s6 s7).sl) (most := 4) rfl rfl (by decide) (by decide)
  obtain ⟨d, m, q⟩ := ixC (l := [.none, .str "a", .str "b", .str "c"]) (a := eFz (lDisp (aCons (eC .none) (aCons (eC (.str "a")) (aCons (eC (.str "b")) (aCons (eC (.str "c")) aNil)))))) (ρ := rE S many fnd s4 s5 s6 s7) rfl e b1 (by simpa using b2)
  refine ⟨d, S', ?_, q⟩
  simp only [List.mem_cons, List.not_mem_nil, or_false] at m
  rcases m with rfl | rfl | rfl | rfl
  · exact .inl rfl
  · exact .inr ⟨_, rfl⟩
  · exact .inr ⟨_, rfl⟩
  · exact .inr ⟨_, rfl⟩
theorem num_ok {S : Src} {many : Int} {fnd : List Rw} {s4 s5 s6 s7 : Sl} : ∃ n S', NumV n ∧ numE (rE S many fnd s4 s5 s6 s7) = some (n, rE S' many fnd s4 s5 s6 s7) := by
  obtain ⟨k, S', b1, b2, e⟩ := pickC (i := 0) (a := eC (.int 6)) (sl := (rE S many fnd s4 s5 s6 s7).sl) (S := S) (S1 := S) (sl1 := (rE S many fnd s4 s5 s6 s7).sl) (most := 6) rfl rfl (by decide) (by decide)
  obtain ⟨d, m, q⟩ := ixC (l := [.none, .int 0, .int 3, .int (-5), .int 3, .int 100000000000]) (a := eFz (lDisp (aCons (eC .none) (aCons (eC (.int 0)) (aCons (eC (.int 3)) (aCons (e2 opSub (eC (.int 0)) (eC (.int 5))) (aCons (eC (.int 3)) (aCons (e2 opPow (eC (.int 10)) (eC (.int 11))) aNil)))))))) (ρ := rE S many fnd s4 s5 s6 s7) rfl e b1 (by simpa using b2)
  refine ⟨d, S', ?_, q⟩
  simp only [List.mem_cons, List.not_mem_nil, or_false] at m
  rcases m with rfl | rfl | rfl | rfl | rfl | rfl
  · exact .inl rfl
  all_goals exact .inr ⟨_, rfl⟩
end Dl
end
section
set_option Elab.async false
set_option linter.all false
set_option autoImplicit false
set_option maxRecDepth 100000
set_option maxHeartbeats 4000000
/-! P19: drawn rows. -/
namespace Dl
open PySem
theorem runSC {ar n : Nat} {g : G} {ds : List PyData} {S S' : Src} {d : PyData} {ρ1 : DEnv} (h : g (startE n (.src :: ds.map .dat) (some S)) = some (.ret d, ρ1)) (hS : ρ1.src = some S') (hl : ds.length + 1 = ar := by rfl) : runS ar n g ds S = some (d, S') := by
  unfold runS
  rw [if_pos hl, h]
  show (ρ1.src).bind _ = _
  rw [hS]
  rfl
def timE : M PyData := e2 opAdd (eVar 2) (eCallS 0 m_law_pick (aCons (eC (.int 20)) aNil))
def sgnE : M PyData := e2 ixD (eFz (lDisp (aCons (eC (.int 1)) (aCons (eC (.int 1)) (aCons (e2 opSub (eC (.int 0)) (eC (.int 1))) aNil))))) (eCallS 0 m_law_pick (aCons (eC (.int 3)) aNil))
theorem tim_ok {S : Src} {many : Int} {fnd : List Rw} {s4 s5 s6 s7 : Sl} : ∃ t S', 0 ≤ t ∧ t ≤ 19 ∧ timE (rE S many fnd s4 s5 s6 s7) = some (.int t, rE S' many fnd s4 s5 s6 s7) := by
  obtain ⟨k, S', b1, b2, e⟩ := pickC (i := 0) (a := eC (.int 20)) (sl := (rE S many fnd s4 s5 s6 s7).sl) (S := S) (S1 := S) (sl1 := (rE S many fnd s4 s5 s6 s7).sl) (most := 20) rfl rfl (by decide) (by decide)
  refine ⟨0 + k, S', by omega, by omega, e2C (x := .int 0) (y := .int k) (ρ1 := rE S many fnd s4 s5 s6 s7) rfl e rfl⟩
theorem sgn_ok {S : Src} {many : Int} {fnd : List Rw} {s4 s5 s6 s7 : Sl} : ∃ g S', (g = 1 ∨ g = -1) ∧ sgnE (rE S many fnd s4 s5 s6 s7) = some (.int g, rE S' many fnd s4 s5 s6 s7) := by
  obtain ⟨k, S', b1, b2, e⟩ := pickC (i := 0) (a := eC (.int 3)) (sl := (rE S many fnd s4 s5 s6 s7).sl) (S := S) (S1 := S) (sl1 := (rE S many fnd s4 s5 s6 s7).sl) (most := 3) rfl rfl (by decide) (by decide)
  obtain ⟨d, m, q⟩ := ixC (l := [.int 1, .int 1, .int (-1)]) (a := eFz (lDisp (aCons (eC (.int 1)) (aCons (eC (.int 1)) (aCons (e2 opSub (eC (.int 0)) (eC (.int 1))) aNil))))) (ρ := rE S many fnd s4 s5 s6 s7) rfl e b1 (by simpa using b2)
  simp only [List.mem_cons, List.not_mem_nil, or_false] at m
  rcases m with rfl | rfl | rfl
  · exact ⟨1, S', .inl rfl, q⟩
  · exact ⟨1, S', .inl rfl, q⟩
  · exact ⟨-1, S', .inr rfl, q⟩
def rowG : G := sSeq (sSetV 5 (vD (eTup (aCons whoE (aCons numE aNil)))))
    (sSeq (sApp 3 (eTup (aCons timE (aCons sgnE (aCons (eVar 5) aNil)))))
    (sIf (tB (e2 opEq (eCallS 0 m_law_pick (aCons (eC (.int 4)) aNil)) (eC (.int 0)))) (sSeq (sSet [6, 7, 5] (aTup [aName, aName, aName]) (eIxO 3 (eCallS 0 m_law_pick (aCons (eLenO 3) aNil))))
    (sApp 3 (eTup (aCons (eVar 6) (aCons (e2 opSub (eC (.int 0)) (eVar 7)) (aCons (eVar 5) aNil)))))) sNext))
theorem opEq_int (i j : Int) : opEq (.int i) (.int j) = some (.bool (decide (i = j))) := rfl
theorem again_ok {S : Src} {many : Int} {fnd : List Rw} {s4 s5 s6 s7 : Sl} (h : fnd ≠ []) (hl : fnd.length ≤ 1000) : ∃ r S', r ∈ fnd ∧ eIxO 3 (eCallS 0 m_law_pick (aCons (eLenO 3) aNil)) (rE S many fnd s4 s5 s6 s7) = some (encR r, rE S' many fnd s4 s5 s6 s7) := by
  have h0 : 1 ≤ fnd.length := by
    cases fnd with
    | nil => exact absurd rfl h
    | cons a b => simp
  obtain ⟨k, S', b1, b2, e⟩ := pickC (i := 0) (a := eLenO 3) (sl := (rE S many fnd s4 s5 s6 s7).sl) (S := S) (S1 := S) (sl1 := (rE S many fnd s4 s5 s6 s7).sl) (most := (fnd.map encR).length) rfl rfl (by rw [List.length_map]; omega) (by rw [List.length_map]; omega)
  obtain ⟨d, q, m⟩ := atI_list b1 b2
  obtain ⟨r, hr, rfl⟩ := List.mem_map.mp m
  refine ⟨r, S', hr, ?_⟩
  unfold eIxO
  have e' : eCallS 0 m_law_pick (aCons (eLenO 3) aNil) (rE S many fnd s4 s5 s6 s7) = some (.int k, rE S' many fnd s4 s5 s6 s7) := e
  have hL : (isL (rE S many fnd s4 s5 s6 s7) 3 || isK (rE S many fnd s4 s5 s6 s7) 3) = true := rfl
  rw [if_pos hL, e']
  show (ixD (.list (fnd.map encR)) (.int k)).bind _ = _
  have q' : ixD (.list (fnd.map encR)) (.int k) = some (encR r) := q
  rw [q']
  rfl
theorem row_turn {S : Src} {many : Int} {fnd : List Rw} {s4 s5 s6 s7 : Sl} (h : ∀ r ∈ fnd, Drawn r) (hl : fnd.length ≤ 100) : ∃ more S' t5 t6 t7, (∀ r ∈ more, Drawn r) ∧ more.length ≤ 2 ∧ rowG (rE S many fnd s4 s5 s6 s7) = some (.next, rE S' many (fnd ++ more) s4 t5 t6 t7) := by
  obtain ⟨w, S1, hw, e1⟩ := who_ok (S := S) (many := many) (fnd := fnd) (s4 := s4) (s5 := s5) (s6 := s6) (s7 := s7)
  obtain ⟨n, S2, hn, f2⟩ := num_ok (S := S1) (many := many) (fnd := fnd) (s4 := s4) (s5 := s5) (s6 := s6) (s7 := s7)
  obtain ⟨t, S3, ht0, ht1, e3⟩ := tim_ok (S := S2) (many := many) (fnd := fnd) (s4 := s4) (s5 := .dat (.tuple [w, n])) (s6 := s6) (s7 := s7)
  obtain ⟨g, S4, hg, e4⟩ := sgn_ok (S := S3) (many := many) (fnd := fnd) (s4 := s4) (s5 := .dat (.tuple [w, n])) (s6 := s6) (s7 := s7)
  have dr : Drawn ⟨t, g, [w, n]⟩ := ⟨⟨w, n, rfl, hw, hn⟩, ht0, ht1, hg⟩
  have all1 : ∀ r ∈ fnd ++ [(⟨t, g, [w, n]⟩ : Rw)], Drawn r := fun r hr => (List.mem_append.mp hr).elim (h r) fun z => by rw [List.mem_singleton.mp z]; exact dr
  have st1 : sSetV 5 (vD (eTup (aCons whoE (aCons numE aNil)))) (rE S many fnd s4 s5 s6 s7) = some (.next, rE S2 many fnd s4 (.dat (.tuple [w, n])) s6 s7) := setVC (vDC (tupC (aC e1 (aC f2 aN)) rfl))
  have st2 : sApp 3 (eTup (aCons timE (aCons sgnE (aCons (eVar 5) aNil)))) (rE S2 many fnd s4 (.dat (.tuple [w, n])) s6 s7) = some (.next, rE S4 many (fnd ++ [⟨t, g, [w, n]⟩]) s4 (.dat (.tuple [w, n])) s6 s7) :=
    appC (l := fnd.map encR) (x := encR ⟨t, g, [w, n]⟩) (ρ1 := rE S4 many fnd s4 (.dat (.tuple [w, n])) s6 s7) rfl (tupC (aC e3 (aC e4 (aC (x := .tuple [w, n]) rfl aN))) rfl) rfl (small_of (by rw [List.length_map]; omega)) (by unfold rE; rw [List.map_append]; rfl)
  obtain ⟨k, S5, b1, b2, e5⟩ := pickC (i := 0) (a := eC (.int 4)) (sl := (rE S4 many (fnd ++ [⟨t, g, [w, n]⟩]) s4 (.dat (.tuple [w, n])) s6 s7).sl) (S := S4) (S1 := S4) (sl1 := (rE S4 many (fnd ++ [⟨t, g, [w, n]⟩]) s4 (.dat (.tuple [w, n])) s6 s7).sl) (most := 4) rfl rfl (by decide) (by decide)
  have tst : tB (e2 opEq (eCallS 0 m_law_pick (aCons (eC (.int 4)) aNil)) (eC (.int 0))) (rE S4 many (fnd ++ [⟨t, g, [w, n]⟩]) s4 (.dat (.tuple [w, n])) s6 s7) = some (decide (k = 0), rE S5 many (fnd ++ [⟨t, g, [w, n]⟩]) s4 (.dat (.tuple [w, n])) s6 s7) := tbC (e2C (y := .int 0) e5 rfl rfl)
  by_cases hk : k = 0
  · obtain ⟨r, S6, hr, e6⟩ := again_ok (S := S5) (many := many) (fnd := fnd ++ [⟨t, g, [w, n]⟩]) (s4 := s4) (s5 := .dat (.tuple [w, n])) (s6 := s6) (s7 := s7) (by simp) (by rw [List.length_append, List.length_singleton]; omega)
    have dr2 := all1 r hr
    refine ⟨[⟨t, g, [w, n]⟩, ⟨r.t, 0 - r.sg, r.vs⟩], S6, .dat (.tuple r.vs), .dat (.int r.t), .dat (.int r.sg), ?_, by simp, seqN st1 (seqN st2 (ifT (by rw [tst, hk]; rfl) (seqN (setC (xs := [.int r.t, .int r.sg, .tuple r.vs]) e6 rfl (ρ2 := rE S6 many (fnd ++ [⟨t, g, [w, n]⟩]) s4 (.dat (.tuple r.vs)) (.dat (.int r.t)) (.dat (.int r.sg)))) ?_)))⟩
    · intro r' hr'
      rcases List.mem_cons.mp hr' with rfl | hr'
      · exact dr
      · rw [List.mem_singleton.mp hr']
        refine ⟨dr2.vs, dr2.t0, dr2.t1, ?_⟩
        rcases dr2.sg with e | e
        · exact .inr (by show 0 - r.sg = -1; omega)
        · exact .inl (by show 0 - r.sg = 1; omega)
    · refine appC (l := (fnd ++ [(⟨t, g, [w, n]⟩ : Rw)]).map encR) (x := encR ⟨r.t, 0 - r.sg, r.vs⟩) (ρ1 := rE S6 many (fnd ++ [⟨t, g, [w, n]⟩]) s4 (.dat (.tuple r.vs)) (.dat (.int r.t)) (.dat (.int r.sg))) rfl (tupC (aC (x := .int r.t) rfl (aC (x := .int (0 - r.sg)) (e2C (x := .int 0) (y := .int r.sg) rfl rfl rfl) (aC (x := .tuple r.vs) rfl aN))) rfl) rfl (small_of (by rw [List.length_map, List.length_append, List.length_singleton]; omega)) ?_
      unfold rE
      have ee : fnd ++ [(⟨t, g, [w, n]⟩ : Rw), ⟨r.t, 0 - r.sg, r.vs⟩] = (fnd ++ [(⟨t, g, [w, n]⟩ : Rw)]) ++ [(⟨r.t, 0 - r.sg, r.vs⟩ : Rw)] := by simp
      rw [ee, List.map_append (l₁ := fnd ++ [(⟨t, g, [w, n]⟩ : Rw)])]
      rfl
  · exact ⟨[⟨t, g, [w, n]⟩], S5, .dat (.tuple [w, n]), s6, s7, fun r hr => by rw [List.mem_singleton.mp hr]; exact dr, by simp, seqN st1 (seqN st2 (ifF (by rw [tst, decide_eq_false hk]) rfl))⟩
theorem row_loop {many : Int} : ∀ (k : Nat) (lo : Int) (S : Src) (fnd : List Rw) (s4 s5 s6 s7 : Sl), (∀ r ∈ fnd, Drawn r) → fnd.length + 2 * k ≤ 100 → ∃ all S' t4 t5 t6 t7, (∀ r ∈ all, Drawn r) ∧ all.length ≤ fnd.length + 2 * k ∧ forGo [4] aName rowG (upFrom lo k) (rE S many fnd s4 s5 s6 s7) = some (.next, rE S' many all t4 t5 t6 t7)
  | 0, lo, S, fnd, s4, s5, s6, s7, h, _ => ⟨fnd, S, s4, s5, s6, s7, h, by omega, rfl⟩
  | k + 1, lo, S, fnd, s4, s5, s6, s7, h, hl => by
    obtain ⟨more, S1, u5, u6, u7, hm, ml, st⟩ := row_turn (S := S) (many := many) (fnd := fnd) (s4 := .dat (.int lo)) (s5 := s5) (s6 := s6) (s7 := s7) h (by omega)
    obtain ⟨all, S2, t4, t5, t6, t7, ha, al, q⟩ := row_loop k (lo + 1) S1 (fnd ++ more) (.dat (.int lo)) u5 u6 u7 (fun r hr => (List.mem_append.mp hr).elim (h r) (hm r)) (by rw [List.length_append]; omega)
    refine ⟨all, S2, t4, t5, t6, t7, ha, by rw [List.length_append] at al; omega, ?_⟩
    exact forCons (xs := [.int lo]) rfl st q
theorem rows_ok (S : Src) {k : Int} (h0 : 0 ≤ k) (h1 : k ≤ 5) : ∃ (rows : List Rw) (S' : Src), m_law_draw_rows [.int k, .int 0] S = some (.list (rows.map encR), S') ∧ (∀ r ∈ rows, Drawn r) ∧ rows.length ≤ 10 := by
  obtain ⟨all, S2, t4, t5, t6, t7, ha, al, q⟩ := row_loop (many := k) k.toNat 0 S [] .un .un .un .un (fun r h => nomatch h) (by simp; omega)
  refine ⟨all, S2, ?_, ha, by simp at al; omega⟩
  have body : g_law_draw_rows (startE 8 (.src :: [PyData.int k, .int 0].map .dat) (some S)) = some (.ret (.list (all.map encR)), ⟨(rE S2 k all t4 t5 t6 t7).sl.set 3 (.dat (.list (all.map encR))), some S2⟩) := by
    refine seqN (setVC (s := .lst []) rfl (ρ2 := rE S k [] .un .un .un .un)) (seqN (forC (ds := upFrom 0 k.toNat) (ρ1 := rE S k [] .un .un .un .un) ?_ q) (retC (a := eVar 3) (d := .list (all.map encR)) rfl))
    show (if fits62 k = true then some (upFrom 0 k.toNat, _) else none) = _
    rw [if_pos]
    · rfl
    unfold fits62
    rw [decide_eq_true (show -(2 ^ 62) ≤ k by omega), decide_eq_true (show k < 2 ^ 62 by omega)]
    rfl
  exact runSC body rfl
end Dl
end
section
set_option Elab.async false
set_option linter.all false
set_option autoImplicit false
set_option maxRecDepth 100000
set_option maxHeartbeats 4000000
/-! P20: drawn orders. -/
namespace Dl
open PySem
theorem lcStep {ix vs : List Nat} {f : Asg} {a : M PyData} {d x : PyData} {ds acc ys : List PyData} {ρ ρ1 : DEnv} {q : List PyData × DEnv} (h1 : f d = some ys) (h2 : a (putAll ix ys (wipeE vs ρ)) = some (x, ρ1)) (h3 : lcGo ix f vs tYes a ds (acc ++ [x]) ρ1 = some q) : lcGo ix f vs tYes a (d :: ds) acc ρ = some q := by
  show (asgM ix f d (wipeE vs ρ)).bind _ = _
  unfold asgM
  rw [h1]
  show (a (putAll ix ys (wipeE vs ρ))).bind _ = _
  rw [h2]
  exact h3
theorem compS {it : M (List PyData)} {ix vs : List Nat} {f : Asg} {a : M PyData} {ρ ρ1 ρ2 : DEnv} {ds xs : List PyData} (h1 : it ρ = some (ds, ρ1)) (ho : ownFree vs ρ1 = true) (hs : small ds.length = true) (h2 : lcGo ix f vs tYes a ds [] ρ1 = some (xs, ρ2)) : lComp it ix f vs tYes a ρ = some (xs, keepSlots vs ρ1 ρ2) := by
  unfold lComp
  rw [h1]
  show (if ownFree vs ρ1 && small ds.length then _ else _) = _
  rw [ho, hs, if_pos (by rfl), h2]
  rfl
theorem erase_map {α β : Type} {f : α → β} : ∀ (xs : List α) (k : Nat), (xs.map f).eraseIdx k = (xs.eraseIdx k).map f
  | [], k => by cases k <;> rfl
  | x :: xs, 0 => rfl
  | x :: xs, k + 1 => by
    show f x :: (xs.map f).eraseIdx k = f x :: (xs.eraseIdx k).map f
    rw [erase_map]
theorem erase_perm {α : Type} : ∀ (xs : List α) (k : Nat) (x : α), xs[k]? = some x → (x :: xs.eraseIdx k).Perm xs
  | [], k, x, h => by cases k <;> cases h
  | y :: xs, 0, x, h => by
    cases Option.some.inj h
    exact List.Perm.refl _
  | y :: xs, k + 1, x, h => (List.Perm.swap y x _).trans ((erase_perm xs k x h).cons y)
theorem up_len : ∀ (k : Nat) (lo : Int), (upFrom lo k).length = k
  | 0, _ => rfl
  | k + 1, lo => by rw [upFrom, List.length_cons, up_len]
theorem range0 {a : M PyData} {ρ ρ1 : DEnv} {n : Int} (h : a ρ = some (.int n, ρ1)) (hf : fits62 n = true) : iRange a ρ = some (upFrom 0 n.toNat, ρ1) := by
  unfold iRange
  rw [h]
  show (if fits62 n = true then some (upFrom 0 n.toNat, ρ1) else none) = _
  rw [if_pos hf]
theorem rangeC {a : M PyData} {ρ ρ1 : DEnv} {n : Nat} (h : a ρ = some (.int n, ρ1)) (hn : n ≤ 100000) : iRange a ρ = some (upFrom 0 n, ρ1) := by
  have h2 : fits62 ((n : Nat) : Int) = true := by
    unfold fits62
    rw [Bool.and_eq_true]
    exact ⟨decide_eq_true (by omega), decide_eq_true (by omega)⟩
  exact range0 h h2
/-- the environment of _law_any_order -/
def oE (S : Src) (arg : PyData) (rest : List PyData) (s3 : Sl) : DEnv := ⟨[.src, .dat arg, .lst rest, s3], some S⟩
theorem any_loop {α : Type} {e : α → PyData} {arg : PyData} : ∀ (k : Nat) (lo : Int) (S : Src) (rest : List α) (acc : List PyData) (s3 : Sl), rest.length = k → k ≤ 1000 → ∃ (ys : List α) (S' : Src) (t3 : Sl), ys.Perm rest ∧ lcGo [3] aName [3] tYes (ePopO 2 (eCallS 0 m_law_pick (aCons (eLenO 2) aNil))) (upFrom lo k) acc (oE S arg (rest.map e) s3) = some (acc ++ ys.map e, oE S' arg [] t3)
  | 0, lo, S, rest, acc, s3, hk, _ => by
    cases List.eq_nil_of_length_eq_zero hk
    exact ⟨[], S, s3, List.Perm.refl _, by rw [List.map_nil, List.append_nil]; rfl⟩
  | k + 1, lo, S, rest, acc, s3, hk, hb => by
    obtain ⟨i, S1, b1, b2, e1⟩ := pickC (i := 0) (a := eLenO 2) (sl := (oE S arg (rest.map e) (.dat (.int lo))).sl) (S := S) (S1 := S) (sl1 := (oE S arg (rest.map e) (.dat (.int lo))).sl) (most := ((rest.map e).length : Nat)) rfl rfl (by rw [List.length_map]; omega) (by rw [List.length_map]; omega)
    rw [List.length_map] at b2
    have hj : i.toNat < rest.length := by omega
    have hx : rest[i.toNat]? = some rest[i.toNat] := List.getElem?_eq_getElem hj
    obtain ⟨ys, S2, t3, p, q⟩ := any_loop (e := e) (arg := arg) k (lo + 1) S1 (rest.eraseIdx i.toNat) (acc ++ [e rest[i.toNat]]) (.dat (.int lo)) (by rw [List.length_eraseIdx_of_lt hj]; omega) (by omega)
    refine ⟨rest[i.toNat] :: ys, S2, t3, ((p.cons _).trans (erase_perm _ _ _ hx)), ?_⟩
    refine lcStep (ys := [.int lo]) rfl (x := e rest[i.toNat]) (ρ1 := oE S1 arg ((rest.eraseIdx i.toNat).map e) (.dat (.int lo))) ?_ ?_
    · show ePopO 2 (eCallS 0 m_law_pick (aCons (eLenO 2) aNil)) (oE S arg (rest.map e) (.dat (.int lo))) = _
      unfold ePopO
      have hL : isL (oE S arg (rest.map e) (.dat (.int lo))) 2 = true := rfl
      have e1' : eCallS 0 m_law_pick (aCons (eLenO 2) aNil) (oE S arg (rest.map e) (.dat (.int lo))) = some (.int i, oE S1 arg (rest.map e) (.dat (.int lo))) := e1
      rw [if_pos hL, e1']
      show (if (decide (0 ≤ i) && decide (i < 2 ^ 63)) = true then ((rest.map e)[i.toNat]?).bind fun d => some (d, oE S1 arg ((rest.map e).eraseIdx i.toNat) (.dat (.int lo))) else none) = _
      rw [if_pos (by rw [decide_eq_true b1, decide_eq_true (show i < 2 ^ 63 by omega)]; rfl), List.getElem?_map, hx, erase_map]
      rfl
    · rw [List.append_assoc] at q
      exact q
theorem any_ok {α : Type} {e : α → PyData} (S : Src) (xs : List α) (h : xs.length ≤ 1000) : ∃ (ys : List α) (S' : Src), ys.Perm xs ∧ m_law_any_order [.list (xs.map e)] S = some (.list (ys.map e), S') := by
  obtain ⟨ys, S', t3, p, q⟩ := any_loop (e := e) (arg := .list (xs.map e)) xs.length 0 S xs [] .un rfl h
  refine ⟨ys, S', p, ?_⟩
  have it : iRange (eLenO 2) (oE S (.list (xs.map e)) (xs.map e) .un) = some (upFrom 0 xs.length, oE S (.list (xs.map e)) (xs.map e) .un) := by
    have h1 : eLenO 2 (oE S (.list (xs.map e)) (xs.map e) .un) = some (.int (xs.length : Nat), oE S (.list (xs.map e)) (xs.map e) .un) := by
      show some (PyData.int ((xs.map e).length : Nat), _) = _
      rw [List.length_map]
    exact rangeC h1 (by omega)
  have cm := compS it (vs := [3]) (ix := [3]) (f := aName) rfl (by rw [up_len]; exact small_of (by omega)) q
  exact runSC (seqN (setVC (s := .lst (xs.map e)) (ρ2 := oE S (.list (xs.map e)) (xs.map e) .un) rfl) (retC (fzC cm))) rfl
end Dl
end
section
set_option Elab.async false
set_option linter.all false
set_option autoImplicit false
set_option maxRecDepth 100000
set_option maxHeartbeats 4000000
/-! P21: rows in a drawn order with marks between. -/
namespace Dl
open PySem
def encT : EntT → PyData
  | .mark m => .tuple [.str "mark", .int m]
  | .row r => .tuple [.str "row", encR r]
def rowsOf : List EntT → List Rw
  | [] => []
  | .mark _ :: es => rowsOf es
  | .row r :: es => r :: rowsOf es
/-- no row below a mark ahead of it; marks small -/
def LF : List EntT → Prop
  | [] => True
  | .mark m :: es => (0 ≤ m ∧ m ≤ 19 ∧ ∀ r ∈ rowsOf es, m ≤ r.t) ∧ LF es
  | .row _ :: es => LF es
theorem cut_from (pre rest : List PyData) : cutD (some (pre.length : Int)) none (pre ++ rest) = rest := by
  unfold cutD
  rw [HT.sIx_nat, HT.sIx_none, List.length_append, Nat.min_eq_left (Nat.le_add_right _ _), List.drop_left]
  exact List.take_of_length_le (by omega)
theorem minI_lb : ∀ (r : List Int) (m : Int), ∀ x ∈ m :: r, minI m r ≤ x
  | [], m, x, h => by
    rw [List.mem_singleton.mp h]
    exact Int.le_refl _
  | y :: r, m, x, h => by
    rw [minI]
    by_cases q : y < m
    · rw [if_pos q]
      rcases List.mem_cons.mp h with rfl | h
      · have := minI_lb r y y List.mem_cons_self
        omega
      · exact minI_lb r y x h
    · rw [if_neg q]
      rcases List.mem_cons.mp h with rfl | h
      · exact minI_lb r _ _ List.mem_cons_self
      · rcases List.mem_cons.mp h with rfl | h
        · have := minI_lb r m m List.mem_cons_self
          omega
        · exact minI_lb r m x (List.mem_cons_of_mem _ h)
theorem minI_in : ∀ (r : List Int) (m : Int), minI m r ∈ m :: r
  | [], m => List.mem_cons_self
  | y :: r, m => by
    rw [minI]
    by_cases q : y < m
    · rw [if_pos q]
      exact List.mem_cons_of_mem _ (minI_in r y)
    · rw [if_neg q]
      rcases List.mem_cons.mp (minI_in r m) with e | h
      · rw [e]
        exact List.mem_cons_self
      · exact List.mem_cons_of_mem _ (List.mem_cons_of_mem _ h)
def mE (S : Src) (arg : PyData) (fnd : List EntT) (ord : List Rw) (s4 s5 s6 : Sl) : DEnv := ⟨[.src, .dat arg, .lst (fnd.map encT), .dat (.list (ord.map encR)), s4, s5, s6, .un, .un, .un, .un], some S⟩
def leastE : M PyData := e1 minD (eFz (lComp (iDat (eFz (lFrom (eVar 3) (eVar 4)))) [10] aName [10] tYes (e2 ixD (eVar 10) (eC (.int 0)))))
def maybeG : G := sIf (tB (e2 opEq (eCallS 0 m_law_pick (aCons (eC (.int 3)) aNil)) (eC (.int 0)))) (sSeq (sSetV 6 (vD leastE)) (sApp 2 (eTup (aCons (eC (.str "mark")) (aCons (eCallS 0 m_law_pick (aCons (e2 opAdd (eVar 6) (eC (.int 1))) aNil)) aNil))))) sNext
def markG : G := sSeq maybeG (sApp 2 (eTup (aCons (eC (.str "row")) (aCons (eVar 5) aNil))))
theorem least_ok {S : Src} {arg : PyData} {fnd : List EntT} {pre rest : List Rw} {r : Rw} {s5 s6 : Sl} (hl : rest.length ≤ 1000) : leastE (mE S arg fnd (pre ++ r :: rest) (.dat (.int pre.length)) s5 s6) = some (.int (minI r.t (rest.map (·.t))), mE S arg fnd (pre ++ r :: rest) (.dat (.int pre.length)) s5 s6) := by
  have hit : iDat (eFz (lFrom (eVar 3) (eVar 4))) (mE S arg fnd (pre ++ r :: rest) (.dat (.int pre.length)) s5 s6) = some ((r :: rest).map encR, mE S arg fnd (pre ++ r :: rest) (.dat (.int pre.length)) s5 s6) := by
    have c : cutD (some (pre.length : Int)) none ((pre ++ r :: rest).map encR) = (r :: rest).map encR := by
      rw [List.map_append]
      have z := cut_from (pre.map encR) ((r :: rest).map encR)
      rw [List.length_map] at z
      exact z
    show (some (PyData.list (cutD (some (pre.length : Int)) none ((pre ++ r :: rest).map encR)), _) : Option (PyData × DEnv)).bind _ = _
    rw [c]
    rfl
  refine e1C (x := .list ((r :: rest).map fun q => .int q.t)) (fzC (comp_all (e := encR) (fun q => .int q.t) hit (small_of (by rw [List.length_cons]; omega)) fun q _ => ⟨[encR q], rfl, e2C (x := encR q) (y := .int 0) rfl rfl rfl⟩)) ?_
  show (intsD ((r :: rest).map fun q => .int q.t)).bind _ = _
  rw [ints_map]
  rfl
theorem mE_put {S : Src} {arg : PyData} {fnd : List EntT} {ord : List Rw} {s4 s5 s6 : Sl} (e : EntT) : (mE S arg fnd ord s4 s5 s6).put 2 (.lst (fnd.map encT ++ [encT e])) = mE S arg (fnd ++ [e]) ord s4 s5 s6 := by
  unfold mE
  rw [List.map_append (l₁ := fnd)]
  rfl
theorem put_row {S : Src} {arg : PyData} {fnd : List EntT} {ord : List Rw} {r : Rw} {s4 s6 : Sl} (hl : fnd.length ≤ 5000) : sApp 2 (eTup (aCons (eC (.str "row")) (aCons (eVar 5) aNil))) (mE S arg fnd ord s4 (.dat (encR r)) s6) = some (.next, mE S arg (fnd ++ [.row r]) ord s4 (.dat (encR r)) s6) :=
  appC (l := fnd.map encT) (x := encT (.row r)) (ρ1 := mE S arg fnd ord s4 (.dat (encR r)) s6) rfl (tupC (aC (x := .str "row") rfl (aC (x := encR r) rfl aN)) rfl) rfl (small_of (by rw [List.length_map]; omega)) (mE_put _)
theorem maybe_ok {S : Src} {arg : PyData} {fnd : List EntT} {pre rest : List Rw} {r : Rw} {s6 : Sl} (hd : ∀ q ∈ r :: rest, Drawn q) (hl : rest.length ≤ 1000) (hf : fnd.length ≤ 5000) : ∃ (ms : List Int) (S' : Src) (t6 : Sl), (∀ m ∈ ms, 0 ≤ m ∧ m ≤ 19 ∧ ∀ q ∈ r :: rest, m ≤ q.t) ∧ ms.length ≤ 1 ∧ maybeG (mE S arg fnd (pre ++ r :: rest) (.dat (.int pre.length)) (.dat (encR r)) s6) = some (.next, mE S' arg (fnd ++ ms.map .mark) (pre ++ r :: rest) (.dat (.int pre.length)) (.dat (encR r)) t6) := by
  obtain ⟨k, S1, b1, b2, e1⟩ := pickC (i := 0) (a := eC (.int 3)) (sl := (mE S arg fnd (pre ++ r :: rest) (.dat (.int pre.length)) (.dat (encR r)) s6).sl) (S := S) (S1 := S) (sl1 := (mE S arg fnd (pre ++ r :: rest) (.dat (.int pre.length)) (.dat (encR r)) s6).sl) (most := 3) rfl rfl (by decide) (by decide)
  have tst : tB (e2 opEq (eCallS 0 m_law_pick (aCons (eC (.int 3)) aNil)) (eC (.int 0))) (mE S arg fnd (pre ++ r :: rest) (.dat (.int pre.length)) (.dat (encR r)) s6) = some (decide (k = 0), mE S1 arg fnd (pre ++ r :: rest) (.dat (.int pre.length)) (.dat (encR r)) s6) := tbC (e2C (y := .int 0) e1 rfl rfl)
  by_cases hk : k = 0
  · have hm := minI_in (rest.map (·.t)) r.t
    have bd : ∀ q ∈ r :: rest, minI r.t (rest.map (·.t)) ≤ q.t := fun q hq => minI_lb (rest.map (·.t)) r.t q.t (by
      rcases List.mem_cons.mp hq with rfl | hq
      · exact List.mem_cons_self
      · exact List.mem_cons_of_mem _ (List.mem_map.mpr ⟨q, hq, rfl⟩))
    have lo : 0 ≤ minI r.t (rest.map (·.t)) := by
      rcases List.mem_cons.mp hm with e | h
      · rw [e]
        exact (hd r List.mem_cons_self).t0
      · obtain ⟨q, hq, e⟩ := List.mem_map.mp h
        rw [← e]
        exact (hd q (List.mem_cons_of_mem _ hq)).t0
    have hi : minI r.t (rest.map (·.t)) ≤ 19 := Int.le_trans (bd r List.mem_cons_self) (hd r List.mem_cons_self).t1
    have ls := least_ok (S := S1) (arg := arg) (fnd := fnd) (pre := pre) (r := r) (s5 := .dat (encR r)) (s6 := s6) hl
    generalize hw : minI r.t (rest.map (·.t)) = w at bd lo hi ls
    obtain ⟨m, S2, c1, c2, f1⟩ := pickC (i := 0) (a := e2 opAdd (eVar 6) (eC (.int 1))) (sl := (mE S1 arg fnd (pre ++ r :: rest) (.dat (.int pre.length)) (.dat (encR r)) (.dat (.int w))).sl) (S := S1) (S1 := S1) (sl1 := (mE S1 arg fnd (pre ++ r :: rest) (.dat (.int pre.length)) (.dat (encR r)) (.dat (.int w))).sl) (most := w + 1) rfl (e2C (x := .int w) (y := .int 1) rfl rfl rfl) (by omega) (by omega)
    refine ⟨[m], S2, .dat (.int w), fun x hx => ?_, by simp, ifT (by rw [tst, hk]; rfl) (seqN (setVC (vDC ls) (ρ2 := mE S1 arg fnd (pre ++ r :: rest) (.dat (.int pre.length)) (.dat (encR r)) (.dat (.int w))) rfl) ?_)⟩
    · rw [List.mem_singleton.mp hx]
      exact ⟨c1, by omega, fun q hq => by have := bd q hq; omega⟩
    · refine appC (l := fnd.map encT) (x := encT (.mark m)) (ρ1 := mE S2 arg fnd (pre ++ r :: rest) (.dat (.int pre.length)) (.dat (encR r)) (.dat (.int w))) rfl (tupC (aC (x := .str "mark") (ρ1 := mE S1 arg fnd (pre ++ r :: rest) (.dat (.int pre.length)) (.dat (encR r)) (.dat (.int w))) rfl (aC (x := .int m) f1 aN)) rfl) rfl (small_of (by rw [List.length_map]; omega)) (mE_put _)
  · refine ⟨[], S1, s6, (fun m h => nomatch h), by simp, ?_⟩
    rw [List.map_nil, List.append_nil]
    exact ifF (by rw [tst, decide_eq_false hk]) rfl
theorem rows_app : ∀ (ms : List Int) (es : List EntT), rowsOf (ms.map .mark ++ es) = rowsOf es
  | [], es => rfl
  | m :: ms, es => rows_app ms es
theorem lf_app : ∀ {ms : List Int} {es : List EntT}, (∀ m ∈ ms, 0 ≤ m ∧ m ≤ 19 ∧ ∀ q ∈ rowsOf es, m ≤ q.t) → LF es → LF (ms.map .mark ++ es)
  | [], es, _, h => h
  | m :: ms, es, hm, h => ⟨by
    show 0 ≤ m ∧ m ≤ 19 ∧ ∀ r ∈ rowsOf (ms.map .mark ++ es), m ≤ r.t
    rw [rows_app]
    exact hm m List.mem_cons_self, lf_app (fun x hx => hm x (List.mem_cons_of_mem _ hx)) h⟩
theorem mark_loop {arg : PyData} : ∀ (rest pre : List Rw) (S : Src) (fnd : List EntT) (s4 s5 s6 : Sl), (∀ r ∈ rest, Drawn r) → fnd.length + 2 * rest.length ≤ 1000 → ∃ (more : List EntT) (S' : Src) (t4 t5 t6 : Sl), rowsOf more = rest ∧ LF more ∧ more.length ≤ 2 * rest.length ∧ forGo [4, 5] (aTup [aName, aName]) markG (numFrom pre.length (rest.map encR)) (mE S arg fnd (pre ++ rest) s4 s5 s6) = some (.next, mE S' arg (fnd ++ more) (pre ++ rest) t4 t5 t6)
  | [], pre, S, fnd, s4, s5, s6, _, _ => ⟨[], S, s4, s5, s6, rfl, True.intro, Nat.le_refl _, by rw [List.append_nil fnd]; rfl⟩
  | r :: rest, pre, S, fnd, s4, s5, s6, hd, hl => by
    rw [List.length_cons] at hl
    obtain ⟨ms, S1, u6, hm, hml, st1⟩ := maybe_ok (S := S) (arg := arg) (fnd := fnd) (pre := pre) (s6 := s6) hd (by omega) (by omega)
    have st2 := put_row (S := S1) (arg := arg) (fnd := fnd ++ ms.map .mark) (ord := pre ++ r :: rest) (r := r) (s4 := .dat (.int pre.length)) (s6 := u6) (by rw [List.length_append, List.length_map]; omega)
    obtain ⟨more, S2, t4, t5, t6, h1, h2, h3, st3⟩ := mark_loop (arg := arg) rest (pre ++ [r]) S1 (fnd ++ ms.map .mark ++ [.row r]) (.dat (.int pre.length)) (.dat (encR r)) u6 (fun q hq => hd q (List.mem_cons_of_mem _ hq)) (by rw [List.length_append, List.length_append, List.length_map, List.length_singleton]; omega)
    rw [List.append_assoc pre, List.length_append, List.length_singleton, Int.natCast_add] at st3
    refine ⟨ms.map .mark ++ .row r :: more, S2, t4, t5, t6, ?_, lf_app (es := .row r :: more) (fun m h => ?_) h2, ?_, ?_⟩
    · rw [rows_app, rowsOf, h1]
    · rw [rowsOf, h1]
      exact hm m h
    · rw [List.length_append, List.length_map, List.length_cons, List.length_cons]
      omega
    · rw [List.map_cons]
      have ee : fnd ++ (ms.map EntT.mark ++ EntT.row r :: more) = fnd ++ ms.map EntT.mark ++ [EntT.row r] ++ more := by simp
      rw [ee]
      exact forCons (d := .tuple [.int pre.length, encR r]) (xs := [.int pre.length, encR r]) rfl (ρ1 := mE S1 arg (fnd ++ ms.map .mark ++ [.row r]) (pre ++ r :: rest) (.dat (.int pre.length)) (.dat (encR r)) u6) (seqN st1 st2) st3
end Dl
end
section
set_option Elab.async false
set_option linter.all false
set_option autoImplicit false
set_option maxRecDepth 100000
set_option maxHeartbeats 4000000
/-! P22: drawn entries. -/
namespace Dl
open PySem
theorem orF {a b : M Bool} {ρ ρ1 : DEnv} {q : Bool × DEnv} (h1 : a ρ = some (false, ρ1)) (h2 : b ρ1 = some q) : tOr a b ρ = some q := by
  unfold tOr
  rw [h1]
  exact h2
theorem orT {a b : M Bool} {ρ ρ1 : DEnv} (h1 : a ρ = some (true, ρ1)) : tOr a b ρ = some (true, ρ1) := by
  unfold tOr
  rw [h1]
  rfl
theorem callSC {i : Nat} {m : List PyData → Src → Option (PyData × Src)} {t : M (List PyData)} {ρ : DEnv} {xs : List PyData} {sl : List Sl} {S S' : Src} {d : PyData} (hs : isS ρ i = true) (ht : t ρ = some (xs, ⟨sl, some S⟩)) (hm : m xs S = some (d, S')) : eCallS i m t ρ = some (d, ⟨sl, some S'⟩) := by
  unfold eCallS
  rw [if_pos hs, ht]
  show (m xs S).bind _ = _
  rw [hm]
  rfl
def kE (S : Src) (arg things ord : PyData) (s4 s5 s6 : Sl) (kept : List EntT) (last : Int) (s9 : Sl) : DEnv := ⟨[.src, .dat arg, .dat things, .dat ord, s4, s5, s6, .dat (.list (kept.map encT)), .dat (.int last), s9, .un], some S⟩
def keepG : G := sIf (tOr (tB (e2 opEq (e2 ixD (eVar 9) (eC (.int 0))) (eC (.str "row")))) (tB (e2 opGt (e2 ixD (eVar 9) (eC (.int 1))) (eVar 8)))) (sPar 7 8 (vD (eFz (lAdd (eVar 7) (eFz (lDisp (aCons (eVar 9) aNil)))))) (vD (eIf (tB (e2 opEq (e2 ixD (eVar 9) (eC (.int 0))) (eC (.str "mark")))) (e2 ixD (eVar 9) (eC (.int 1))) (eVar 8)))) sNext
theorem keep_add {S : Src} {arg things ord : PyData} {s4 s5 s6 : Sl} {kept : List EntT} {last : Int} {e : EntT} (hl : kept.length ≤ 5000) : vD (eFz (lAdd (eVar 7) (eFz (lDisp (aCons (eVar 9) aNil))))) (kE S arg things ord s4 s5 s6 kept last (.dat (encT e))) = some (.dat (.list ((kept ++ [e]).map encT)), kE S arg things ord s4 s5 s6 kept last (.dat (encT e))) := by
  rw [List.map_append]
  exact vDC (fzC (addC (xs := kept.map encT) (ys := [encT e]) rfl (fzC (dispC (aC (x := encT e) rfl aN) rfl)) (small_of (by rw [List.length_map]; simp; omega))))
theorem keep_loop {S : Src} {arg things ord : PyData} {s4 s5 s6 : Sl} : ∀ (es kept : List EntT) (last : Int) (s9 : Sl), LF es → kept.length + es.length ≤ 1000 → ∃ (more : List EntT) (last' : Int) (t9 : Sl), rowsOf more = rowsOf es ∧ LF more ∧ more.length ≤ es.length ∧ forGo [9] aName keepG (es.map encT) (kE S arg things ord s4 s5 s6 kept last s9) = some (.next, kE S arg things ord s4 s5 s6 (kept ++ more) last' t9)
  | [], kept, last, s9, _, _ => ⟨[], last, s9, rfl, True.intro, Nat.le_refl _, by rw [List.append_nil]; rfl⟩
  | .mark m :: es, kept, last, s9, h, hl => by
    rw [List.length_cons] at hl
    have t1 : tB (e2 opEq (e2 ixD (eVar 9) (eC (.int 0))) (eC (.str "row"))) (kE S arg things ord s4 s5 s6 kept last (.dat (encT (.mark m)))) = some (false, kE S arg things ord s4 s5 s6 kept last (.dat (encT (.mark m)))) := tbC (e2C (x := .str "mark") (y := .str "row") (e2C (x := encT (.mark m)) (y := .int 0) rfl rfl rfl) rfl opEq_mr)
    have t2 : tB (e2 opGt (e2 ixD (eVar 9) (eC (.int 1))) (eVar 8)) (kE S arg things ord s4 s5 s6 kept last (.dat (encT (.mark m)))) = some (decide (last < m), kE S arg things ord s4 s5 s6 kept last (.dat (encT (.mark m)))) := tbC (e2C (x := .int m) (y := .int last) (e2C (x := encT (.mark m)) (y := .int 1) rfl rfl rfl) rfl rfl)
    by_cases q : last < m
    · obtain ⟨more, last', t9, h1, h2, h3, st⟩ := keep_loop (S := S) (arg := arg) (things := things) (ord := ord) (s4 := s4) (s5 := s5) (s6 := s6) es (kept ++ [.mark m]) m (.dat (encT (.mark m))) h.2 (by rw [List.length_append, List.length_singleton]; omega)
      rw [List.append_assoc] at st
      refine ⟨.mark m :: more, last', t9, h1, ⟨by rw [h1]; exact h.1, h2⟩, by rw [List.length_cons, List.length_cons]; omega, forCons (xs := [encT (.mark m)]) rfl (ρ1 := kE S arg things ord s4 s5 s6 (kept ++ [.mark m]) m (.dat (encT (.mark m)))) (ifT (orF t1 (by rw [t2, decide_eq_true q])) (parC (keep_add (by omega)) (s' := .dat (.int m)) (vDC (eifT (tbC (e2C (x := .str "mark") (y := .str "mark") (e2C (x := encT (.mark m)) (y := .int 0) rfl rfl rfl) rfl opEq_tt)) (e2C (x := encT (.mark m)) (y := .int 1) rfl rfl rfl))))) st⟩
    · obtain ⟨more, last', t9, h1, h2, h3, st⟩ := keep_loop (S := S) (arg := arg) (things := things) (ord := ord) (s4 := s4) (s5 := s5) (s6 := s6) es kept last (.dat (encT (.mark m))) h.2 (by omega)
      exact ⟨more, last', t9, h1, h2, by rw [List.length_cons]; omega, forCons (xs := [encT (.mark m)]) rfl (ρ1 := kE S arg things ord s4 s5 s6 kept last (.dat (encT (.mark m)))) (ifF (orF t1 (by rw [t2, decide_eq_false q])) rfl) st⟩
  | .row r :: es, kept, last, s9, h, hl => by
    rw [List.length_cons] at hl
    have t1 : tB (e2 opEq (e2 ixD (eVar 9) (eC (.int 0))) (eC (.str "row"))) (kE S arg things ord s4 s5 s6 kept last (.dat (encT (.row r)))) = some (true, kE S arg things ord s4 s5 s6 kept last (.dat (encT (.row r)))) := tbC (e2C (x := .str "row") (y := .str "row") (e2C (x := encT (.row r)) (y := .int 0) rfl rfl rfl) rfl opEq_tt)
    obtain ⟨more, last', t9, h1, h2, h3, st⟩ := keep_loop (S := S) (arg := arg) (things := things) (ord := ord) (s4 := s4) (s5 := s5) (s6 := s6) es (kept ++ [.row r]) last (.dat (encT (.row r))) h (by rw [List.length_append, List.length_singleton]; omega)
    rw [List.append_assoc] at st
    refine ⟨.row r :: more, last', t9, by rw [rowsOf, rowsOf, h1], h2, by rw [List.length_cons, List.length_cons]; omega, forCons (xs := [encT (.row r)]) rfl (ρ1 := kE S arg things ord s4 s5 s6 (kept ++ [.row r]) last (.dat (encT (.row r)))) (ifT (orT t1) (parC (keep_add (by omega)) (s' := .dat (.int last)) (vDC (eifF (tbC (e2C (x := .str "row") (y := .str "mark") (e2C (x := encT (.row r)) (y := .int 0) rfl rfl rfl) rfl opEq_rm)) rfl)))) st⟩
theorem marks_ok (S : Src) {rows : List Rw} (hd : ∀ r ∈ rows, Drawn r) (hl : rows.length ≤ 100) : ∃ (es : List EntT) (S' : Src), (rowsOf es).Perm rows ∧ LF es ∧ es.length ≤ 2 * rows.length ∧ m_law_draw_marks [.list (rows.map encR)] S = some (.list (es.map encT), S') := by
  obtain ⟨ord, S1, p, e1⟩ := any_ok (e := encR) S rows (by omega)
  have pl := p.length_eq
  obtain ⟨fnd, S2, t4, t5, t6, h1, h2, h3, st1⟩ := mark_loop (arg := .list (rows.map encR)) ord [] S1 [] .un .un .un (fun r hr => hd r (p.mem_iff.mp hr)) (by simp; omega)
  obtain ⟨kept, last, t9, k1, k2, k3, st2⟩ := keep_loop (S := S2) (arg := .list (rows.map encR)) (things := .list (fnd.map encT)) (ord := .list (ord.map encR)) (s4 := t4) (s5 := t5) (s6 := t6) fnd [] 0 .un h2 (by simp; omega)
  refine ⟨kept, S2, by rw [k1, h1]; exact p, k2, by omega, ?_⟩
  have c1 : eCallS 0 m_law_any_order (aCons (eVar 1) aNil) ⟨[.src, .dat (.list (rows.map encR)), .un, .un, .un, .un, .un, .un, .un, .un, .un], some S⟩ = some (.list (ord.map encR), ⟨[.src, .dat (.list (rows.map encR)), .un, .un, .un, .un, .un, .un, .un, .un, .un], some S1⟩) := by
    exact callSC (xs := [.list (rows.map encR)]) rfl rfl e1
  refine runSC (ρ1 := kE S2 (.list (rows.map encR)) (.list (fnd.map encT)) (.list (ord.map encR)) t4 t5 t6 kept last t9) (seqN (parC (s := .lst []) rfl (vDC c1) (ρ3 := mE S1 (.list (rows.map encR)) [] ord .un .un .un) rfl) (seqN (forC (ds := numFrom 0 (ord.map encR)) rfl st1) (seqN (parC (s := .dat (.list [])) (s' := .dat (.int 0)) rfl rfl) (seqN (forC (ds := fnd.map encT) (ρ1 := kE S2 (.list (rows.map encR)) (.list (fnd.map encT)) (.list (ord.map encR)) t4 t5 t6 [] 0 .un) rfl st2) (retC (d := .list (kept.map encT)) rfl))))) rfl
/-! ### the entries of a part -/
def nE (S : Src) (arg : PyData) (fnd : List EntT) (s3 : Sl) : DEnv := ⟨[.src, .dat arg, .lst (fnd.map encE), s3], some S⟩
def entG : G := sApp 2 (eIf (tB (e2 opEq (e2 ixD (eVar 3) (eC (.int 0))) (eC (.str "mark")))) (eTup (aCons (eC (.str "mark")) (aCons (e2 ixD (eVar 3) (eC (.int 1))) aNil))) (e2 opAdd (eTup (aCons (eC (.str "row")) aNil)) (e2 ixD (eVar 3) (eC (.int 1)))))
theorem ent_turn {S : Src} {arg : PyData} {fnd : List EntT} {e : EntT} (hl : fnd.length ≤ 5000) : entG (nE S arg fnd (.dat (encT e))) = some (.next, nE S arg (fnd ++ [e]) (.dat (encT e))) := by
  refine appC (l := fnd.map encE) (x := encE e) (ρ1 := nE S arg fnd (.dat (encT e))) rfl ?_ rfl (small_of (by rw [List.length_map]; omega)) (by unfold nE; rw [List.map_append]; rfl)
  cases e with
  | mark m => exact eifT (tbC (e2C (x := .str "mark") (y := .str "mark") (e2C (x := encT (.mark m)) (y := .int 0) rfl rfl rfl) rfl opEq_tt)) (tupC (aC (x := .str "mark") rfl (aC (e2C (x := encT (.mark m)) (y := .int 1) rfl rfl rfl) aN)) rfl)
  | row r => exact eifF (tbC (e2C (x := .str "row") (y := .str "mark") (e2C (x := encT (.row r)) (y := .int 0) rfl rfl rfl) rfl opEq_rm)) (e2C (x := .tuple [.str "row"]) (y := encR r) (tupC (aC (x := .str "row") rfl aN) rfl) (e2C (x := encT (.row r)) (y := .int 1) rfl rfl rfl) rfl)
theorem ent_loop {S : Src} {arg : PyData} : ∀ (es fnd : List EntT) (s3 : Sl), fnd.length + es.length ≤ 1000 → ∃ t3, forGo [3] aName entG (es.map encT) (nE S arg fnd s3) = some (.next, nE S arg (fnd ++ es) t3)
  | [], fnd, s3, _ => ⟨s3, by rw [List.append_nil]; rfl⟩
  | e :: es, fnd, s3, hl => by
    rw [List.length_cons] at hl
    obtain ⟨t3, q⟩ := ent_loop (S := S) (arg := arg) es (fnd ++ [e]) (.dat (encT e)) (by rw [List.length_append, List.length_singleton]; omega)
    rw [List.append_assoc] at q
    exact ⟨t3, forCons (xs := [encT e]) rfl (ρ1 := nE S arg (fnd ++ [e]) (.dat (encT e))) (ent_turn (by omega)) q⟩
theorem entries_ok (S : Src) {rows : List Rw} (hd : ∀ r ∈ rows, Drawn r) (hl : rows.length ≤ 100) : ∃ (es : List EntT) (S' : Src), (rowsOf es).Perm rows ∧ LF es ∧ es.length ≤ 2 * rows.length ∧ m_law_draw_entries [.list (rows.map encR)] S = some (.tuple (es.map encE), S') := by
  obtain ⟨es, S1, p, lf, el, e1⟩ := marks_ok S hd hl
  obtain ⟨t3, q⟩ := ent_loop (S := S1) (arg := .list (rows.map encR)) es [] .un (by simp; omega)
  refine ⟨es, S1, p, lf, el, ?_⟩
  have c1 : iDat (eCallS 0 m_law_draw_marks (aCons (eVar 1) aNil)) (nE S (.list (rows.map encR)) [] .un) = some (es.map encT, nE S1 (.list (rows.map encR)) [] .un) := by
    have c2 : eCallS 0 m_law_draw_marks (aCons (eVar 1) aNil) (nE S (.list (rows.map encR)) [] .un) = some (.list (es.map encT), nE S1 (.list (rows.map encR)) [] .un) := by
      exact callSC (xs := [.list (rows.map encR)]) rfl rfl e1
    exact datC c2 rfl
  exact runSC (seqN (setVC (s := .lst []) rfl (ρ2 := nE S (.list (rows.map encR)) [] .un)) (seqN (forC c1 q) (retC (e1C (x := .list (es.map encE)) (y := .tuple (es.map encE)) rfl rfl)))) rfl
theorem lf_late : ∀ {es : List EntT} {k : Int}, LF es → (∀ r ∈ rowsOf es, k ≤ r.t) → LateFree es k
  | [], k, _, _ => True.intro
  | .mark m :: es, k, h, hk => by
    show LateFree es (if m > k then m else k)
    refine lf_late h.2 fun r hr => ?_
    split
    · exact h.1.2.2 r hr
    · exact hk r hr
  | .row r :: es, k, h, hk => ⟨hk r List.mem_cons_self, lf_late (es := es) h fun q hq => hk q (List.mem_cons_of_mem _ hq)⟩
theorem lf_marks : ∀ {es : List EntT}, LF es → ∀ m ∈ marksIn es, 0 ≤ m ∧ m ≤ 19
  | [], _, m, h => nomatch h
  | .mark k :: es, h, m, hm => by
    unfold marksIn at hm
    rw [List.filter_cons_of_pos (by rfl), List.map_cons] at hm
    rcases List.mem_cons.mp hm with rfl | hm
    · exact ⟨h.1.1, h.1.2.1⟩
    · exact lf_marks h.2 m hm
  | .row r :: es, h, m, hm => by
    unfold marksIn at hm
    rw [List.filter_cons_of_neg (by show ¬ false = true; simp)] at hm
    exact lf_marks (es := es) h m hm
end Dl
end
section
set_option Elab.async false
set_option linter.all false
set_option autoImplicit false
set_option maxRecDepth 100000
set_option maxHeartbeats 4000000
/-! P23: drawn queries. -/
namespace Dl
open PySem
abbrev cols0 : List (Str × Str) := [("who", "text"), ("n", "number")]
def colE (x : Str) : PyData := .tuple [.str "column", .str x]
def sp1 (n h : Str) : Sp3 := ⟨n, h, colE "n", fun r => r.vs.getD 1 .none⟩
def sp2 (n : Str) (j : Nat) : Sp3 := ⟨n, "sum", colE n, fun r => r.vs.getD j .none⟩
def spsOnce : List Str → List Sp3
  | [h] => [sp1 "a" h]
  | [h, g] => [sp1 "a" h, sp1 "b" g]
  | _ => []
def spsLate (kl : Nat) : List Str → List Sp3
  | [h] => [sp2 "a" (kl + 2)]
  | [h, g] => [sp2 "a" (kl + 2), sp2 "b" (kl + 3)]
  | _ => []
def keysB (b : Bool) : PyData := if b then .tuple [.str "who"] else .tuple []
def klB (b : Bool) : Nat := if b then 1 else 0
def srcD : PyData := .tuple [.str "source", colsD cols0]
def pairD (n : Str) (d : PyData) : PyData := .tuple [.str n, d]
def bothD (l r : Str) : PyData := .tuple [.str "both", .str l, .str r]
def sumSt (src : Str) (b : Bool) (size : Int) (sps : List Sp3) : PyData := .tuple [.str "sum", .str src, keysB b, winD size, .tuple (sps.map encS)]
def onceSt (hows : List Str) (b : Bool) (size : Int) : List (Str × PyData) := [("x", srcD), ("y", srcD), ("z", bothD "x" "y"), ("s", sumSt "z" b size (spsOnce hows))]
def twiceSt (hows : List Str) (b : Bool) (size : Int) : List (Str × PyData) := [("x", srcD), ("y", srcD), ("f", sumSt "x" b size (spsOnce hows)), ("g", sumSt "y" b size (spsOnce hows)), ("z", bothD "f" "g"), ("s", sumSt "z" b size (spsLate (klB b) hows))]
def qryD (ps : List (Str × PyData)) : PyData := .tuple (ps.map (fun p => pairD p.1 p.2) ++ [pairD "out" (.str "s")])
def hwD (h : Str) : PyData := .tuple [.str h, .int 1]
def IsHow (h : Str) : Prop := h = "count" ∨ h = "sum"
/-- what hows there are -/
def HowsOk (hows : List Str) : Prop := (∃ h, hows = [h] ∧ IsHow h) ∨ ∃ h g, hows = [h, g] ∧ IsHow h ∧ IsHow g
/-- the environment of _law_draw_queries -/
def qE (S : Src) (hows : List Str) (s3 : Sl) : DEnv := ⟨[.src, .dat (colsD cols0), .lst (hows.map hwD), s3, .un, .un, .un, .un, .un, .un, .un, .un], some S⟩
def howE : M PyData := e2 ixD (eFz (lDisp (aCons (eC (.str "count")) (aCons (eC (.str "sum")) aNil)))) (eCallS 0 m_law_pick (aCons (eC (.int 2)) aNil))
def howG : G := sApp 2 (eTup (aCons howE (aCons (eC (.int 1)) aNil)))
theorem how_turn {S : Src} {hows : List Str} {s3 : Sl} (hl : hows.length ≤ 100) : ∃ (h : Str) (S' : Src), IsHow h ∧ howG (qE S hows s3) = some (.next, qE S' (hows ++ [h]) s3) := by
  obtain ⟨k, S', b1, b2, e⟩ := pickC (i := 0) (a := eC (.int 2)) (sl := (qE S hows s3).sl) (S := S) (S1 := S) (sl1 := (qE S hows s3).sl) (most := 2) rfl rfl (by decide) (by decide)
  obtain ⟨d, m, q⟩ := ixC (l := [.str "count", .str "sum"]) (a := eFz (lDisp (aCons (eC (.str "count")) (aCons (eC (.str "sum")) aNil)))) (ρ := qE S hows s3) rfl e b1 (by simpa using b2)
  have go : ∀ h : Str, d = .str h → howG (qE S hows s3) = some (.next, qE S' (hows ++ [h]) s3) := fun h hd => by
    rw [hd] at q
    exact appC (l := hows.map hwD) (x := hwD h) (ρ1 := qE S' hows s3) rfl (tupC (aC q (aC (x := .int 1) rfl aN)) rfl) rfl (small_of (by rw [List.length_map]; omega)) (by unfold qE; rw [List.map_append]; rfl)
  simp only [List.mem_cons, List.not_mem_nil, or_false] at m
  rcases m with rfl | rfl
  · exact ⟨"count", S', .inl rfl, go _ rfl⟩
  · exact ⟨"sum", S', .inr rfl, go _ rfl⟩
def sumsE : M PyData := e1 tupD (eFz (lComp (iRange (e1 lenD (eVar 2))) [11] aName [11] tYes (eTup (aCons (e2 ixD (eC (.str "ab")) (eVar 11)) (aCons (e2 ixD (e2 ixD (eVar 2) (eVar 11)) (eC (.int 0))) (aCons (eTup (aCons (eC (.str "column")) (aCons (eC (.str "n")) aNil))) aNil))))))
def lateE : M PyData := e1 tupD (eFz (lComp (iRange (e1 lenD (eVar 2))) [11] aName [11] tYes (eTup (aCons (e2 ixD (eC (.str "ab")) (eVar 11)) (aCons (eC (.str "sum")) (aCons (eTup (aCons (eC (.str "column")) (aCons (e2 ixD (eC (.str "ab")) (eVar 11)) aNil))) aNil))))))
theorem ab0 : ixD (.str "ab") (.int 0) = some (.str "a") := by kernel_rfl
theorem ab1 : ixD (.str "ab") (.int 1) = some (.str "b") := by kernel_rfl
/-- behind the loop: the list of hows is read -/
def rdE (S : Src) (hows : List Str) (s3 s4 s5 : Sl) : DEnv := ⟨[.src, .dat (colsD cols0), .dat (.list (hows.map hwD)), s3, s4, s5, .un, .un, .un, .un, .un, .un], some S⟩
theorem ab_k {hows : List Str} (H : HowsOk hows) {k : Int} (hk : .int k ∈ upFrom 0 hows.length) : ∃ n, ixD (.str "ab") (.int k) = some (.str n) ∧ (k = 0 ∧ n = "a" ∨ k = 1 ∧ n = "b") := by
  have : k = 0 ∨ k = 1 := by
    rcases H with ⟨h, rfl, _⟩ | ⟨h, g, rfl, _, _⟩
    · simp [upFrom] at hk
      exact .inl hk
    · simp [upFrom] at hk
      exact hk
  rcases this with rfl | rfl
  · exact ⟨"a", ab0, .inl ⟨rfl, rfl⟩⟩
  · exact ⟨"b", ab1, .inr ⟨rfl, rfl⟩⟩
theorem up_map : ∀ (k : Nat) (lo : Int), upFrom lo k = ((List.range k).map fun i => lo + (i : Nat)).map PyData.int
  | 0, lo => rfl
  | k + 1, lo => by
    rw [upFrom, up_map k (lo + 1), List.range_succ_eq_map, List.map_cons, List.map_cons, List.map_map, List.map_map, List.map_map]
    congr 1
    · simp
    · refine List.map_congr_left fun i _ => ?_
      show PyData.int (lo + 1 + (i : Nat)) = PyData.int (lo + ((i + 1 : Nat) : Int))
      congr 1
      push_cast
      omega
theorem len_it {S : Src} {hows : List Str} {s3 s4 s5 : Sl} (hl : hows.length ≤ 100) {ρ : DEnv} (hρ : eVar 2 ρ = some (.list (hows.map hwD), rdE S hows s3 s4 s5)) : iRange (e1 lenD (eVar 2)) ρ = some (upFrom 0 hows.length, rdE S hows s3 s4 s5) := by
  have h1 : e1 lenD (eVar 2) ρ = some (.int (hows.length : Nat), rdE S hows s3 s4 s5) := e1C hρ (by show some (PyData.int ((hows.map hwD).length : Nat)) = _; rw [List.length_map])
  exact rangeC h1 (by omega)
theorem comp_at {it : M (List PyData)} {ix vs : List Nat} {f : Asg} {t : M Bool} {a : M PyData} {ρ0 ρ : DEnv} {ds : List PyData} (hit : it ρ0 = some (ds, ρ)) : lComp it ix f vs t a ρ0 = lComp (fun ρ => some (ds, ρ)) ix f vs t a ρ := by
  unfold lComp
  rw [hit]
theorem sums_ok {S : Src} {hows : List Str} {s3 s4 s5 : Sl} (H : HowsOk hows) {ρ : DEnv} (hρ : eVar 2 ρ = some (.list (hows.map hwD), rdE S hows s3 s4 s5)) : sumsE ρ = some (.tuple ((spsOnce hows).map encS), rdE S hows s3 s4 s5) := by
  have hl : hows.length ≤ 100 := by rcases H with ⟨h, rfl, _⟩ | ⟨h, g, rfl, _, _⟩ <;> simp
  have it := len_it (s3 := s3) (s4 := s4) (s5 := s5) hl hρ
  rw [up_map] at it
  refine e1C (x := .list ((spsOnce hows).map encS)) (fzC ?_) rfl
  rw [comp_at it]
  rcases H with ⟨h, rfl, _⟩ | ⟨h, g, rfl, _, _⟩
  · refine comp_all (e := PyData.int) (fun _ => encS (sp1 "a" h)) (xs := [(0 : Int)]) rfl rfl fun k hk => ⟨[.int k], rfl, ?_⟩
    rw [List.mem_singleton.mp hk]
    exact tupC (aC (e2C (x := .str "ab") (y := .int 0) rfl rfl ab0) (aC (e2C (x := hwD h) (y := .int 0) (e2C (x := .list ([h].map hwD)) (y := .int 0) rfl rfl rfl) rfl rfl) (aC (x := colE "n") rfl aN))) rfl
  · refine comp_all (e := PyData.int) (fun k => if k = 0 then encS (sp1 "a" h) else encS (sp1 "b" g)) (xs := [(0 : Int), 1]) rfl rfl fun k hk => ⟨[.int k], rfl, ?_⟩
    rcases List.mem_cons.mp hk with rfl | hk
    · exact tupC (aC (e2C (x := .str "ab") (y := .int 0) rfl rfl ab0) (aC (e2C (x := hwD h) (y := .int 0) (e2C (x := .list ([h, g].map hwD)) (y := .int 0) rfl rfl rfl) rfl rfl) (aC (x := colE "n") rfl aN))) rfl
    · rw [List.mem_singleton.mp hk]
      exact tupC (aC (e2C (x := .str "ab") (y := .int 1) rfl rfl ab1) (aC (e2C (x := hwD g) (y := .int 0) (e2C (x := .list ([h, g].map hwD)) (y := .int 1) rfl rfl rfl) rfl rfl) (aC (x := colE "n") rfl aN))) rfl
theorem late_ok {S : Src} {hows : List Str} {s3 s4 s5 : Sl} {kl : Nat} (H : HowsOk hows) {ρ : DEnv} (hρ : eVar 2 ρ = some (.list (hows.map hwD), rdE S hows s3 s4 s5)) : lateE ρ = some (.tuple ((spsLate kl hows).map encS), rdE S hows s3 s4 s5) := by
  have hl : hows.length ≤ 100 := by rcases H with ⟨h, rfl, _⟩ | ⟨h, g, rfl, _, _⟩ <;> simp
  have it := len_it (s3 := s3) (s4 := s4) (s5 := s5) hl hρ
  rw [up_map] at it
  refine e1C (x := .list ((spsLate kl hows).map encS)) (fzC ?_) rfl
  rw [comp_at it]
  rcases H with ⟨h, rfl, _⟩ | ⟨h, g, rfl, _, _⟩
  · refine comp_all (e := PyData.int) (fun _ => encS (sp2 "a" (kl + 2))) (xs := [(0 : Int)]) rfl rfl fun k hk => ⟨[.int k], rfl, ?_⟩
    rw [List.mem_singleton.mp hk]
    exact tupC (aC (e2C (x := .str "ab") (y := .int 0) rfl rfl ab0) (aC (x := .str "sum") rfl (aC (tupC (aC (x := .str "column") rfl (aC (e2C (x := .str "ab") (y := .int 0) rfl rfl ab0) aN)) rfl) aN))) rfl
  · refine comp_all (e := PyData.int) (fun k => if k = 0 then encS (sp2 "a" (kl + 2)) else encS (sp2 "b" (kl + 3))) (xs := [(0 : Int), 1]) rfl rfl fun k hk => ⟨[.int k], rfl, ?_⟩
    rcases List.mem_cons.mp hk with rfl | hk
    · exact tupC (aC (e2C (x := .str "ab") (y := .int 0) rfl rfl ab0) (aC (x := .str "sum") rfl (aC (tupC (aC (x := .str "column") rfl (aC (e2C (x := .str "ab") (y := .int 0) rfl rfl ab0) aN)) rfl) aN))) rfl
    · rw [List.mem_singleton.mp hk]
      exact tupC (aC (e2C (x := .str "ab") (y := .int 1) rfl rfl ab1) (aC (x := .str "sum") rfl (aC (tupC (aC (x := .str "column") rfl (aC (e2C (x := .str "ab") (y := .int 1) rfl rfl ab1) aN)) rfl) aN))) rfl
end Dl
end
section
set_option Elab.async false
set_option linter.all false
set_option autoImplicit false
set_option maxRecDepth 100000
set_option maxHeartbeats 4000000
/-! P24: drawn queries, whole. -/
namespace Dl
open PySem
theorem how_loop : ∀ (k : Nat) (lo : Int) (S : Src) (hows : List Str) (s3 : Sl), hows.length + k ≤ 50 → ∃ (more : List Str) (S' : Src) (t3 : Sl), more.length = k ∧ (∀ h ∈ more, IsHow h) ∧ forGo [3] aName howG (upFrom lo k) (qE S hows s3) = some (.next, qE S' (hows ++ more) t3)
  | 0, lo, S, hows, s3, _ => ⟨[], S, s3, rfl, (fun h z => nomatch z), by rw [List.append_nil]; rfl⟩
  | k + 1, lo, S, hows, s3, hl => by
    obtain ⟨h, S1, ih, st⟩ := how_turn (S := S) (hows := hows) (s3 := .dat (.int lo)) (by omega)
    obtain ⟨more, S2, t3, ml, im, q⟩ := how_loop k (lo + 1) S1 (hows ++ [h]) (.dat (.int lo)) (by rw [List.length_append, List.length_singleton]; omega)
    rw [List.append_assoc] at q
    refine ⟨h :: more, S2, t3, by rw [List.length_cons, ml], fun g hg => ?_, forCons (xs := [.int lo]) rfl st q⟩
    rcases List.mem_cons.mp hg with rfl | hg
    · exact ih
    · exact im g hg
def keysE : M PyData := e2 ixD (eFz (lDisp (aCons (eTup aNil) (aCons (eTup (aCons (eC (.str "who")) aNil)) aNil)))) (eCallS 0 m_law_pick (aCons (eC (.int 2)) aNil))
def winE : M PyData := eTup (aCons (eC (.str "even")) (aCons (e2 opAdd (eC (.int 1)) (eCallS 0 m_law_pick (aCons (eC (.int 9)) aNil))) aNil))
/-- .. once sums and late are there -/
def lateV (S : Src) (hows : List Str) (s3 : Sl) (sums late : PyData) : DEnv := rdE S hows s3 (.dat sums) (.dat late)
theorem keys_ok {S : Src} {hows : List Str} {s3 : Sl} {sums late : PyData} : ∃ (b : Bool) (S' : Src), keysE (lateV S hows s3 sums late) = some (keysB b, lateV S' hows s3 sums late) := by
  obtain ⟨k, S', b1, b2, e⟩ := pickC (i := 0) (a := eC (.int 2)) (sl := (lateV S hows s3 sums late).sl) (S := S) (S1 := S) (sl1 := (lateV S hows s3 sums late).sl) (most := 2) rfl rfl (by decide) (by decide)
  obtain ⟨d, m, q⟩ := ixC (l := [.tuple [], .tuple [.str "who"]]) (a := eFz (lDisp (aCons (eTup aNil) (aCons (eTup (aCons (eC (.str "who")) aNil)) aNil)))) (ρ := lateV S hows s3 sums late) rfl e b1 (by simpa using b2)
  simp only [List.mem_cons, List.not_mem_nil, or_false] at m
  rcases m with rfl | rfl
  · exact ⟨false, S', q⟩
  · exact ⟨true, S', q⟩
theorem win_ok {S : Src} {hows : List Str} {s3 : Sl} {sums late : PyData} : ∃ (size : Int) (S' : Src), 1 ≤ size ∧ size ≤ 9 ∧ winE (lateV S hows s3 sums late) = some (winD size, lateV S' hows s3 sums late) := by
  obtain ⟨k, S', b1, b2, e⟩ := pickC (i := 0) (a := eC (.int 9)) (sl := (lateV S hows s3 sums late).sl) (S := S) (S1 := S) (sl1 := (lateV S hows s3 sums late).sl) (most := 9) rfl rfl (by decide) (by decide)
  exact ⟨1 + k, S', by omega, by omega, tupC (aC (x := .str "even") rfl (aC (e2C (x := .int 1) (y := .int k) (ρ1 := lateV S hows s3 sums late) rfl e rfl) aN)) rfl⟩
def colsE : M PyData := eTup (aCons (eTup (aCons (eC (.str "who")) (aCons (eC (.str "text")) aNil))) (aCons (eTup (aCons (eC (.str "n")) (aCons (eC (.str "number")) aNil))) aNil))
theorem queries_ok (S : Src) : ∃ (hows : List Str) (b : Bool) (size : Int) (S' : Src), HowsOk hows ∧ 1 ≤ size ∧ size ≤ 9 ∧ m_law_draw_queries [] S = some (.tuple [.list [qryD (onceSt hows b size), qryD (twiceSt hows b size)], keysB b, winD size, .list (hows.map hwD)], S') := by
  obtain ⟨k, S1, b1, b2, e1⟩ := pickC (i := 0) (a := eC (.int 2)) (sl := (qE S [] .un).sl) (S := S) (S1 := S) (sl1 := (qE S [] .un).sl) (most := 2) rfl rfl (by decide) (by decide)
  obtain ⟨hows, S2, t3, hl, hh, st2⟩ := how_loop (1 + k).toNat 0 S1 [] .un (by simp; omega)
  rw [List.nil_append] at st2
  have H : HowsOk hows := by
    have : hows.length = 1 ∨ hows.length = 2 := by omega
    rcases this with e | e
    · match hows, e with
      | [h], _ => exact .inl ⟨h, rfl, hh h List.mem_cons_self⟩
    · match hows, e with
      | [h, g], _ => exact .inr ⟨h, g, rfl, hh h List.mem_cons_self, hh g (List.mem_cons_of_mem _ List.mem_cons_self)⟩
  have it : iRange (e2 opAdd (eC (.int 1)) (eCallS 0 m_law_pick (aCons (eC (.int 2)) aNil))) (qE S [] .un) = some (upFrom 0 (1 + k).toNat, qE S1 [] .un) := by
    have z : e2 opAdd (eC (.int 1)) (eCallS 0 m_law_pick (aCons (eC (.int 2)) aNil)) (qE S [] .un) = some (.int (1 + k), qE S1 [] .un) := e2C (x := .int 1) (y := .int k) (ρ1 := qE S [] .un) rfl e1 rfl
    refine range0 z ?_
    unfold fits62
    rw [Bool.and_eq_true]
    exact ⟨decide_eq_true (by omega), decide_eq_true (by omega)⟩
  have f1 := sums_ok (S := S2) (s3 := t3) (s4 := .un) (s5 := .un) H (ρ := qE S2 hows t3) rfl
  generalize hs : (spsOnce hows).map encS = sums at f1
  have late0 : ∀ kl kl' : Nat, (spsLate kl hows).map encS = (spsLate kl' hows).map encS := fun kl kl' => by
    rcases H with ⟨h, rfl, _⟩ | ⟨h, g, rfl, _, _⟩ <;> rfl
  have f2 := late_ok (S := S2) (s3 := t3) (s4 := .dat (.tuple sums)) (s5 := .un) (kl := 0) H (ρ := rdE S2 hows t3 (.dat (.tuple sums)) .un) rfl
  generalize ht : (spsLate 0 hows).map encS = late at f2
  obtain ⟨b, S3, f3⟩ := keys_ok (S := S2) (hows := hows) (s3 := t3) (sums := .tuple sums) (late := .tuple late)
  obtain ⟨size, S4, z1, z2, f4⟩ := win_ok (S := S3) (hows := hows) (s3 := t3) (sums := .tuple sums) (late := .tuple late)
  refine ⟨hows, b, size, S4, H, z1, z2, ?_⟩
  have q1 : qryD (onceSt hows b size) = .tuple [pairD "x" srcD, pairD "y" srcD, pairD "z" (bothD "x" "y"), pairD "s" (.tuple [.str "sum", .str "z", keysB b, winD size, .tuple sums]), pairD "out" (.str "s")] := by
    rw [← hs]
    rfl
  have q2 : qryD (twiceSt hows b size) = .tuple [pairD "x" srcD, pairD "y" srcD, pairD "f" (.tuple [.str "sum", .str "x", keysB b, winD size, .tuple sums]), pairD "g" (.tuple [.str "sum", .str "y", keysB b, winD size, .tuple sums]), pairD "z" (bothD "f" "g"), pairD "s" (.tuple [.str "sum", .str "z", keysB b, winD size, .tuple late]), pairD "out" (.str "s")] := by
    rw [← hs, ← ht, late0 0 (klB b)]
    rfl
  rw [q1, q2]
  generalize keysB b = kb at f3 ⊢
  generalize winD size = wd at f4 ⊢
  refine runSC (ρ1 := ⟨[.src, .dat (colsD cols0), .dat (.list (hows.map hwD)), t3, .dat (.tuple sums), .dat (.tuple late), .dat kb, .dat wd, .dat (.tuple [pairD "x" srcD, pairD "y" srcD]), .dat (.tuple [pairD "x" srcD, pairD "y" srcD, pairD "z" (bothD "x" "y"), pairD "s" (.tuple [.str "sum", .str "z", kb, wd, .tuple sums]), pairD "out" (.str "s")]), .dat (.tuple [pairD "x" srcD, pairD "y" srcD, pairD "f" (.tuple [.str "sum", .str "x", kb, wd, .tuple sums]), pairD "g" (.tuple [.str "sum", .str "y", kb, wd, .tuple sums]), pairD "z" (bothD "f" "g"), pairD "s" (.tuple [.str "sum", .str "z", kb, wd, .tuple late]), pairD "out" (.str "s")]), .un], some S4⟩) (seqN (parC (s := .dat (colsD cols0)) (s' := .lst []) rfl rfl (ρ3 := qE S [] .un)) (seqN (forC it st2) (seqN (setVC (vDC f1)) (seqN (setVC (vDC f2)) (seqN (parC (vDC f3) (vDC f4) rfl) ?_))))) rfl
  exact rfl
end Dl
end
section
set_option Elab.async false
set_option linter.all false
set_option autoImplicit false
set_option maxRecDepth 100000
set_option maxHeartbeats 4000000
/-! Q3: the law's own sums. -/
namespace Dl
open PySem
theorem opEq_ne {x y : Str} (h : x ≠ y) : opEq (.str x) (.str y) = some (.bool false) := by
  simp [opEq, oB, eqD, h]
theorem notN (d : PyData) : NumV d → opNotN d = some (.bool (match d with | .none => false | _ => true)) := fun h => by
  cases d <;> rfl
section
variable {α : Type} {v : α → PyData} {s : α → Int} {xs : List α}
theorem ltally_count (h : xs.length ≤ 1000) : m_law_tally [.str "count", .list (xs.map fun x => .tuple [v x, .int (s x)])] = some (.int (xs.map s).sum) := by
  refine runC (seqR (ifT (tbC (e2C (x := .str "count") (y := .str "count") (z := .bool true) rfl rfl opEq_tt)) (retC (e1C (x := .list (xs.map fun x => .int (s x))) (fzC (comp_all (e := fun x => .tuple [v x, .int (s x)]) (fun x => .int (s x)) rfl (small_of (by omega)) fun x _ => ⟨[v x, .int (s x)], rfl, rfl⟩)) ?_))))
  show (intsD (xs.map fun x => .int (s x))).bind _ = _
  rw [ints_map]
  rfl
theorem ltally_sum (h : xs.length ≤ 1000) (hv : ∀ x ∈ xs, NumV (v x)) (hs : ∀ x ∈ xs, fits64 (s x) = true) : m_law_tally [.str "sum", .list (xs.map fun x => .tuple [v x, .int (s x)])] = some (.int (xs.map fun x => numOf (v x) * s x).sum) := by
  have hlen : (xs.filter fun x => match v x with | .none => false | _ => true).length ≤ 1000 := Nat.le_trans (List.length_filter_le _ _) h
  have hsub : ∀ x ∈ (xs.filter fun x => match v x with | .none => false | _ => true), x ∈ xs ∧ ∃ i, v x = .int i := fun x hx => by
    obtain ⟨h1, h2⟩ := List.mem_filter.mp hx
    refine ⟨h1, ?_⟩
    rcases hv x h1 with e | e
    · rw [e] at h2
      cases h2
    · exact e
  generalize hf : (xs.filter fun x => match v x with | .none => false | _ => true) = ys at hlen hsub
  have main : (ys.map fun x => numOf (v x) * s x).sum = (xs.map fun x => numOf (v x) * s x).sum := by
    rw [← hf]
    exact sum_filter hv
  refine runC (ρ1 := ⟨[.dat (.str "sum"), .dat (.list (xs.map fun x => .tuple [v x, .int (s x)])), .dat (.list (ys.map fun x => .tuple [v x, .int (s x)])), .dat (.dict []), .un, .un], none⟩) (seqN (ρ1 := ⟨[.dat (.str "sum"), .dat (.list (xs.map fun x => .tuple [v x, .int (s x)])), .un, .un, .un, .un], none⟩) (ifF (tbC (e2C (x := .str "sum") (y := .str "count") (z := .bool false) rfl rfl (opEq_ne (by decide +kernel)))) rfl) (seqN (parC (ρ1 := ⟨[.dat (.str "sum"), .dat (.list (xs.map fun x => .tuple [v x, .int (s x)])), .un, .un, .un, .un], none⟩) (s := .dat (.list (ys.map fun x => .tuple [v x, .int (s x)]))) (s' := .dat (.dict [])) (vDC (fzC ?_)) rfl rfl) (seqR (ifT (tbC (e2C (x := .str "sum") (y := .str "sum") (z := .bool true) rfl rfl opEq_tt)) (retC (e1C (x := .list (ys.map fun x => .int (numOf (v x) * s x))) (fzC ?_) ?_))))))
  · rw [← hf]
    refine comp_pure (e := fun x => .tuple [v x, .int (s x)]) (fun x => match v x with | .none => false | _ => true) (fun x => .tuple [v x, .int (s x)]) rfl (small_of (by omega)) fun x hx => ⟨[v x, .int (s x)], rfl, tbC (e2C (x := v x) (y := .none) rfl rfl (notN _ (hv x hx))), fun _ => tupC (aC (x := v x) rfl (aC (x := .int (s x)) rfl aN)) rfl⟩
  · refine comp_all (e := fun x => .tuple [v x, .int (s x)]) (fun x => .int (numOf (v x) * s x)) rfl (small_of (by omega)) fun x hx => ⟨[v x, .int (s x)], rfl, e2C (x := .int (s x)) (y := v x) rfl rfl ?_⟩
    obtain ⟨h1, i, e⟩ := hsub x hx
    rw [e]
    show (if (fits64 (s x) || fits64 i) = true then some (PyData.int (s x * i)) else none) = some (.int (i * s x))
    rw [hs x h1, Bool.true_or, if_pos rfl, Int.mul_comm]
  · show (intsD (ys.map fun x => .int (numOf (v x) * s x))).bind _ = _
    rw [ints_map]
    show some (PyData.int _) = _
    rw [main]
end
/-- the sum that a how tells of rows -/
def totH (h : Str) (rs : List Rw) : Int := if h = "count" then (rs.map fun r => r.sg).sum else (rs.map fun r => numOf (r.vs.getD 1 .none) * r.sg).sum
theorem fits_sg {r : Rw} (h : Drawn r) : fits64 r.sg = true := by
  rcases h.sg with e | e <;> rw [e] <;> rfl
theorem drawn_num {r : Rw} (h : Drawn r) : NumV (r.vs.getD 1 .none) := by
  obtain ⟨w, n, e, _, hn⟩ := h.vs
  rw [e]
  exact hn
theorem ltally_ok {h : Str} {rs : List Rw} (hh : IsHow h) (hd : ∀ r ∈ rs, Drawn r) (hl : rs.length ≤ 1000) : m_law_tally [.str h, .list (rs.map fun r => .tuple [r.vs.getD 1 .none, .int r.sg])] = some (.int (totH h rs)) := by
  rcases hh with rfl | rfl
  · rw [ltally_count hl]
    rfl
  · rw [ltally_sum hl (fun r hr => drawn_num (hd r hr)) (fun r hr => fits_sg (hd r hr))]
    rfl
theorem ltell_ok {h : Str} (hh : IsHow h) (d : PyData) : m_law_tell [.str h, d] = some d := by
  rcases hh with rfl | rfl
  · exact runC (seqR (ifT (tbC (e2C (x := .str "count") (y := .tuple [.str "count", .str "sum"]) (z := .bool true) rfl (tupC (aC (x := .str "count") rfl (aC (x := .str "sum") rfl aN)) rfl) (by kernel_rfl))) (retC (a := eVar 1) (d := d) rfl)))
  · exact runC (seqR (ifT (tbC (e2C (x := .str "sum") (y := .tuple [.str "count", .str "sum"]) (z := .bool true) rfl (tupC (aC (x := .str "count") rfl (aC (x := .str "sum") rfl aN)) rfl) (by kernel_rfl))) (retC (a := eVar 1) (d := d) rfl)))
end Dl
end
section
set_option Elab.async false
set_option linter.all false
set_option autoImplicit false
set_option maxRecDepth 100000
set_option maxHeartbeats 400000
/-! Q3: the law's own sums of rows. -/
namespace Dl
open PySem
theorem lpairs {hows : List Str} {rs : List Rw} {h : Str} (hd : ∀ r ∈ rs, Drawn r) (hl : rs.length ≤ 1000) : lComp (iDat (eVar 0)) [5] aName [5] tYes (eTup (aCons (e2 ixD (e2 ixD (eVar 5) (eC (.int 2))) (eVar 4)) (aCons (e2 ixD (eVar 5) (eC (.int 1))) aNil))) ⟨[.dat (.list (rs.map encR)), .dat (.list (hows.map hwD)), .un, .dat (.str h), .dat (.int 1), .un, .un], none⟩ = some (rs.map fun r => .tuple [r.vs.getD 1 .none, .int r.sg], ⟨[.dat (.list (rs.map encR)), .dat (.list (hows.map hwD)), .un, .dat (.str h), .dat (.int 1), .un, .un], none⟩) := by
  refine comp_all (e := encR) (fun r => .tuple [r.vs.getD 1 .none, .int r.sg]) (xs := rs) rfl (small_of (by omega)) fun r hr => ⟨[encR r], rfl, tupC (aC (x := r.vs.getD 1 .none) (e2C (x := .tuple r.vs) (y := .int 1) (e2C (x := encR r) (y := .int 2) rfl rfl rfl) rfl ?_) (aC (e2C (x := encR r) (y := .int 1) rfl rfl rfl) aN)) rfl⟩
  obtain ⟨w, n, e, _, _⟩ := (hd r hr).vs
  rw [e]
  rfl
theorem ltals {hows : List Str} {rs : List Rw} (hd : ∀ r ∈ rs, Drawn r) (hl : rs.length ≤ 1000) (hl2 : hows.length ≤ 100) : lComp (iDat (eVar 1)) [3, 4] (aTup [aName, aName]) [3, 4] tYes (eTup (aCons (eVar 3) (aCons (eFz (lComp (iDat (eVar 0)) [5] aName [5] tYes (eTup (aCons (e2 ixD (e2 ixD (eVar 5) (eC (.int 2))) (eVar 4)) (aCons (e2 ixD (eVar 5) (eC (.int 1))) aNil))))) aNil))) ⟨[.dat (.list (rs.map encR)), .dat (.list (hows.map hwD)), .un, .un, .un, .un, .un], none⟩ = some (hows.map fun h => .tuple [.str h, .list (rs.map fun r => .tuple [r.vs.getD 1 .none, .int r.sg])], ⟨[.dat (.list (rs.map encR)), .dat (.list (hows.map hwD)), .un, .un, .un, .un, .un], none⟩) :=
  comp_all (e := hwD) (fun h => .tuple [.str h, .list (rs.map fun r => .tuple [r.vs.getD 1 .none, .int r.sg])]) (xs := hows) rfl (small_of (by omega)) fun h _ => ⟨[.str h, .int 1], rfl, tupC (aC (x := .str h) rfl (aC (fzC (lpairs hd hl)) aN)) rfl⟩
def lpD (rs : List Rw) (h : Str) : PyData := .tuple [.str h, .list (rs.map fun r => .tuple [r.vs.getD 1 .none, .int r.sg])]
theorem ltell1 {h : Str} {rs : List Rw} {a b c : PyData} (hh : IsHow h) (hd : ∀ r ∈ rs, Drawn r) (hl : rs.length ≤ 1000) : eCall m_law_tell (aCons (eVar 3) (aCons (eCall m_law_tally (aCons (eVar 3) (aCons (eVar 6) aNil))) aNil)) ⟨[.dat a, .dat b, .dat c, .dat (.str h), .un, .un, .dat (.list (rs.map fun r => .tuple [r.vs.getD 1 .none, .int r.sg]))], none⟩ = some (.int (totH h rs), ⟨[.dat a, .dat b, .dat c, .dat (.str h), .un, .un, .dat (.list (rs.map fun r => .tuple [r.vs.getD 1 .none, .int r.sg]))], none⟩) := by
  have t := ltally_ok hh hd hl
  generalize (.list (rs.map fun r => .tuple [r.vs.getD 1 .none, .int r.sg]) : PyData) = l at t ⊢
  exact callC (aC (x := .str h) rfl (aC (callC (aC (x := .str h) rfl (aC (x := l) rfl aN)) t) aN)) (ltell_ok hh _)
theorem ltells {hows : List Str} {rs : List Rw} {a b : PyData} (hh : ∀ h ∈ hows, IsHow h) (hd : ∀ r ∈ rs, Drawn r) (hl : rs.length ≤ 1000) (hl2 : hows.length ≤ 100) : lComp (iDat (eVar 2)) [3, 6] (aTup [aName, aName]) [3, 6] tYes (eCall m_law_tell (aCons (eVar 3) (aCons (eCall m_law_tally (aCons (eVar 3) (aCons (eVar 6) aNil))) aNil))) ⟨[.dat a, .dat b, .dat (.list (hows.map (lpD rs))), .un, .un, .un, .un], none⟩ = some (hows.map fun h => .int (totH h rs), ⟨[.dat a, .dat b, .dat (.list (hows.map (lpD rs))), .un, .un, .un, .un], none⟩) := by
  have hit : iDat (eVar 2) ⟨[.dat a, .dat b, .dat (.list (hows.map (lpD rs))), .un, .un, .un, .un], none⟩ = some (hows.map (lpD rs), ⟨[.dat a, .dat b, .dat (.list (hows.map (lpD rs))), .un, .un, .un, .un], none⟩) := rfl
  refine comp_all (e := lpD rs) (fun h => .int (totH h rs)) (xs := hows) hit (small_of (by omega)) fun h hm => ⟨[.str h, .list (rs.map fun r => .tuple [r.vs.getD 1 .none, .int r.sg])], rfl, ?_⟩
  exact ltell1 (hh h hm) hd hl
theorem lsums_ok {hows : List Str} {rs : List Rw} (hh : ∀ h ∈ hows, IsHow h) (hd : ∀ r ∈ rs, Drawn r) (hl : rs.length ≤ 1000) (hl2 : hows.length ≤ 100) : m_law_sums_of [.list (rs.map encR), .list (hows.map hwD)] = some (.tuple (hows.map fun h => .int (totH h rs))) := by
  have t1 := ltals (hows := hows) hd hl hl2
  have t2 := ltells (hows := hows) (rs := rs) (a := .list (rs.map encR)) (b := .list (hows.map hwD)) hh hd hl hl2
  have e0 : (hows.map fun h => PyData.tuple [.str h, .list (rs.map fun r => .tuple [r.vs.getD 1 .none, .int r.sg])]) = hows.map (lpD rs) := rfl
  rw [e0] at t1
  generalize hows.map (lpD rs) = tl at t1 t2
  generalize rs.map encR = rl at t1 t2 ⊢
  generalize hows.map hwD = hl at t1 t2 ⊢
  exact runC (ρ1 := ⟨[.dat (.list rl), .dat (.list hl), .dat (.list tl), .un, .un, .un, .un], none⟩) (seqN (setVC (vDC (fzC t1))) (retC (e1C (x := .list (hows.map fun h => .int (totH h rs))) (fzC t2) rfl)))
end Dl
end
section
set_option Elab.async false
set_option linter.all false
set_option autoImplicit false
set_option maxRecDepth 100000
set_option maxHeartbeats 4000000
/-! Q1: the rows of sums as a flat list; their order does not matter. -/
namespace Dl
open PySem
def fR (κ : Rw → List NestedKey) (size : Int) (r : Rw) : List NestedKey × Int := (κ r, lowOf size r.t)
abbrev fK (κ : Rw → List NestedKey) (size : Int) (q : Rw × PyData) : List NestedKey × Int := fR κ size q.1
def cell (κ : Rw → List NestedKey) (size : Int) (xs : Ln) (p : List NestedKey × Int) : Ln := xs.filter fun q => decide (fK κ size q = p)
def outP (κ : Rw → List NestedKey) (size : Int) (sps : List Sp3) (xs : Ln) (p : List NestedKey × Int) : Rw := outRow (NestedKey.datas p.1) size p.2 sps (cell κ size xs p)
def idx (κ : Rw → List NestedKey) (size mk : Int) (xs : Ln) : List (List NestedKey × Int) := (dist (fK κ size) xs).filter fun p => due mk (p.2 + size)
def flat (κ : Rw → List NestedKey) (size mk : Int) (sps : List Sp3) (xs : Ln) : List Rw := (idx κ size mk xs).map (outP κ size sps xs)
theorem pairs_nd {α β : Type} {g : α → List β} : ∀ {ks : List α}, ks.Nodup → (∀ k ∈ ks, (g k).Nodup) → (ks.flatMap fun k => (g k).map fun b => (k, b)).Nodup
  | [], _, _ => List.nodup_nil
  | k :: ks, h, hg => by
    obtain ⟨h1, h2⟩ := List.nodup_cons.mp h
    rw [List.flatMap_cons, List.nodup_append]
    refine ⟨?_, pairs_nd h2 fun j hj => hg j (List.mem_cons_of_mem _ hj), fun a ha c hc e => ?_⟩
    · have := hg k List.mem_cons_self
      unfold List.Nodup at this ⊢
      rw [List.pairwise_map]
      exact this.imp fun q e => q (by injection e)
    · obtain ⟨b, _, rfl⟩ := List.mem_map.mp ha
      obtain ⟨j, hj, hc⟩ := List.mem_flatMap.mp hc
      obtain ⟨b', _, rfl⟩ := List.mem_map.mp hc
      injection e with e _
      exact h1 (e ▸ hj)
theorem rowsK_flat {κ : Rw → List NestedKey} {size mk : Int} {sps : List Sp3} {xs : Ln} : (rowsK size mk sps (groupsOf (fun q => κ q.1) xs)).Perm (flat κ size mk sps xs) := by
  have ix : ∀ ks : List (List NestedKey), ((ks.map fun k => (k, xs.filter fun q => decide (κ q.1 = k))).flatMap fun g => rowsW (NestedKey.datas g.1) size mk sps (winsOf size g.2)) = (((ks.flatMap fun k => (dist (fun q : Rw × PyData => lowOf size q.1.t) (xs.filter fun q => decide (κ q.1 = k))).map fun b => (k, b)).filter fun p => due mk (p.2 + size)).map (outP κ size sps xs)) := fun ks => by
    induction ks with
    | nil => rfl
    | cons k ks ih =>
      rw [List.map_cons, List.flatMap_cons, List.flatMap_cons, List.filter_append, List.map_append, ih]
      congr 1
      unfold rowsW winsOf
      rw [List.filter_map, List.map_map, List.filter_map, List.map_map]
      refine List.map_congr_left fun b _ => ?_
      show outRow (NestedKey.datas k) size b sps _ = outRow (NestedKey.datas k) size b sps _
      refine congrArg (outRow (NestedKey.datas k) size b sps) ?_
      unfold cell
      show (xs.filter _).filter _ = _
      rw [List.filter_filter]
      refine List.filter_congr fun q _ => ?_
      rw [Bool.eq_iff_iff]
      simp only [Bool.and_eq_true, decide_eq_true_eq, fK, fR, Prod.mk.injEq]
      exact And.comm
  unfold rowsK groupsOf
  rw [ix]
  refine List.Perm.map _ (List.Perm.filter _ ?_)
  refine (List.perm_ext_iff_of_nodup (pairs_nd dist_nd fun k _ => dist_nd) dist_nd).mpr fun p => ?_
  rw [List.mem_flatMap, dist_mem]
  constructor
  · rintro ⟨k, _, h⟩
    obtain ⟨b, hb, rfl⟩ := List.mem_map.mp h
    obtain ⟨q, hq, e⟩ := dist_mem.mp hb
    obtain ⟨h1, h2⟩ := List.mem_filter.mp hq
    exact ⟨q, h1, by unfold fK fR; rw [of_decide_eq_true h2, e]⟩
  · rintro ⟨q, hq, rfl⟩
    exact ⟨κ q.1, dist_mem.mpr ⟨q, hq, rfl⟩, List.mem_map.mpr ⟨lowOf size q.1.t, dist_mem.mpr ⟨q, List.mem_filter.mpr ⟨hq, decide_eq_true rfl⟩, rfl⟩, rfl⟩⟩
/-! ### sums do not see the order -/
theorem sum_perm {l l' : List Int} (h : l.Perm l') : l.sum = l'.sum := by
  induction h with
  | nil => rfl
  | cons x _ ih => rw [List.sum_cons, List.sum_cons, ih]
  | swap x y l => simp only [List.sum_cons]; omega
  | trans _ _ h1 h2 => exact h1.trans h2
def val1 (s : Sp3) (r : Rw) : Int := if s.how = ("count" : Str) then r.sg else numOf (s.col r) * r.sg
def totR (s : Sp3) (rs : List Rw) : Int := (rs.map (val1 s)).sum
theorem tot_R (s : Sp3) (line : Ln) : tot s line = totR s (line.map (·.1)) := by
  unfold tot totR val1
  rw [List.map_map]
  by_cases h : s.how = ("count" : Str)
  · rw [if_pos h]
    congr 1
    exact List.map_congr_left fun q _ => by show q.1.sg = if _ then _ else _; rw [if_pos h]
  · rw [if_neg h]
    congr 1
    exact List.map_congr_left fun q _ => by show numOf (s.col q.1) * q.1.sg = if _ then _ else _; rw [if_neg h]
theorem totR_app (s : Sp3) (a b : List Rw) : totR s (a ++ b) = totR s a + totR s b := by
  unfold totR
  rw [List.map_append, List.sum_append]
theorem totR_perm (s : Sp3) {a b : List Rw} (h : a.Perm b) : totR s a = totR s b := sum_perm (h.map _)
theorem cell_fst {κ : Rw → List NestedKey} {size : Int} {p : List NestedKey × Int} : ∀ xs : Ln, (cell κ size xs p).map (·.1) = (xs.map (·.1)).filter fun r => decide (fR κ size r = p)
  | [] => rfl
  | q :: xs => by
    have ih := cell_fst (κ := κ) (size := size) (p := p) xs
    unfold cell at ih ⊢
    rw [List.map_cons]
    by_cases h : fR κ size q.1 = p
    · rw [List.filter_cons_of_pos (by simpa using h), List.filter_cons_of_pos (by simpa using h), List.map_cons, ih]
    · rw [List.filter_cons_of_neg (by simpa using h), List.filter_cons_of_neg (by simpa using h), ih]
theorem outP_eq {κ : Rw → List NestedKey} {size : Int} {sps : List Sp3} {xs : Ln} {p : List NestedKey × Int} : outP κ size sps xs p = ⟨p.2 + size - 1, 1, NestedKey.datas p.1 ++ ([.int p.2, .int (p.2 + size)] ++ sps.map fun s => .int (totR s ((xs.map (·.1)).filter fun r => decide (fR κ size r = p))))⟩ := by
  unfold outP outRow
  congr 3
  refine List.map_congr_left fun s _ => ?_
  rw [tot_R, cell_fst]
theorem dist_fst {κ : Rw → List NestedKey} {size : Int} {xs : Ln} {p : List NestedKey × Int} : p ∈ dist (fK κ size) xs ↔ ∃ r ∈ xs.map (·.1), fR κ size r = p := by
  rw [dist_mem]
  constructor
  · rintro ⟨q, hq, e⟩
    exact ⟨q.1, List.mem_map.mpr ⟨q, hq, rfl⟩, e⟩
  · rintro ⟨r, hr, e⟩
    obtain ⟨q, hq, rfl⟩ := List.mem_map.mp hr
    exact ⟨q, hq, e⟩
theorem flat_perm {κ : Rw → List NestedKey} {size mk : Int} {sps : List Sp3} {xs ys : Ln} (h : (xs.map (·.1)).Perm (ys.map (·.1))) : (flat κ size mk sps xs).Perm (flat κ size mk sps ys) := by
  have e : outP κ size sps xs = outP κ size sps ys := by
    funext p
    rw [outP_eq, outP_eq]
    congr 3
    exact List.map_congr_left fun s _ => by rw [totR_perm s (h.filter _)]
  unfold flat
  rw [e]
  refine List.Perm.map _ (List.Perm.filter _ ?_)
  refine (List.perm_ext_iff_of_nodup dist_nd dist_nd).mpr fun p => ?_
  rw [dist_fst, dist_fst]
  exact ⟨fun ⟨r, hr, e⟩ => ⟨r, h.mem_iff.mp hr, e⟩, fun ⟨r, hr, e⟩ => ⟨r, h.mem_iff.mpr hr, e⟩⟩
end Dl
end
section
set_option Elab.async false
set_option linter.all false
set_option autoImplicit false
set_option maxRecDepth 100000
set_option maxHeartbeats 4000000
/-! Q2: sums in two steps are sums at once. -/
namespace Dl
open PySem
theorem nd_filter {β : Type} [DecidableEq β] : ∀ {L : List β} {p : β}, L.Nodup → (L.filter fun x => decide (x = p)) = if p ∈ L then [p] else []
  | [], p, _ => rfl
  | x :: L, p, h => by
    obtain ⟨h1, h2⟩ := List.nodup_cons.mp h
    by_cases e : x = p
    · subst e
      rw [List.filter_cons_of_pos (by simp), nd_filter h2, if_neg h1, if_pos List.mem_cons_self]
    · rw [List.filter_cons_of_neg (by simpa using e), nd_filter h2]
      by_cases q : p ∈ L
      · rw [if_pos q, if_pos (List.mem_cons_of_mem _ q)]
      · rw [if_neg q, if_neg fun z => (List.mem_cons.mp z).elim (fun w => e w.symm) q]
theorem low_end {size b : Int} (hs : 1 ≤ size) (hb : b % size = 0) : lowOf size (b + size - 1) = b := by
  unfold lowOf
  have e : (b + size - 1) % size = size - 1 := by
    have h1 : b = size * (b / size) := by
      have := Int.emod_add_mul_ediv b size
      omega
    rw [show b + size - 1 = (size - 1) + size * (b / size) by omega, Int.add_mul_emod_self_left]
    exact Int.emod_eq_of_lt (by omega) (by omega)
  rw [e]
  omega
theorem low_mod {size t : Int} (hs : 1 ≤ size) : lowOf size t % size = 0 := by
  unfold lowOf
  have h3 := Int.emod_add_mul_ediv t size
  rw [show t - t % size = size * (t / size) by omega]
  exact Int.mul_emod_right _ _
/-- what a step of sums over sums must be: pairs of sums, the first's worth is read by the second -/
structure Two (κ κ2 : Rw → List NestedKey) (size : Int) (pr : List (Sp3 × Sp3)) (zs : Ln) : Prop where
  key : ∀ q ∈ zs, ∀ (b : Int) (line : Ln), κ2 (outRow (NestedKey.datas (κ q.1)) size b (pr.map (·.1)) line) = κ q.1
  late : ∀ p ∈ pr, p.2.how = "sum"
  col : ∀ p ∈ pr, ∀ q ∈ zs, ∀ (b : Int) (line : Ln), p.2.col (outRow (NestedKey.datas (κ q.1)) size b (pr.map (·.1)) line) = .int (tot p.1 line)
variable {κ κ2 : Rw → List NestedKey} {size mk mk1 : Int} {pr : List (Sp3 × Sp3)} {X F zs : Ln} {p : List NestedKey × Int}
theorem idx_mem : p ∈ idx κ size mk X ↔ (∃ q ∈ X, fK κ size q = p) ∧ due mk (p.2 + size) = true := by
  unfold idx
  rw [List.mem_filter, dist_mem]
theorem fR_out (hs : 1 ≤ size) (T : Two κ κ2 size pr zs) (hX : ∀ q ∈ X, q ∈ zs) (h : ∃ q ∈ X, fK κ size q = p) : fR κ2 size (outP κ size (pr.map (·.1)) X p) = p := by
  obtain ⟨q, hq, e⟩ := h
  have k1 : p.1 = κ q.1 := by rw [← e]; rfl
  have k2 : p.2 = lowOf size q.1.t := by rw [← e]; rfl
  have z1 : κ2 (outP κ size (pr.map (·.1)) X p) = p.1 := by
    unfold outP
    rw [k1]
    exact T.key q (hX q hq) _ _
  have z2 : lowOf size (outP κ size (pr.map (·.1)) X p).t = p.2 := low_end hs (by rw [k2]; exact low_mod hs)
  show (κ2 _, lowOf size _) = p
  rw [z1, z2]
/-- a cell of the sums: the sum of the one row that is there, if any -/
theorem cell_tot {s : Sp3 × Sp3} (hsz : 1 ≤ size) (T : Two κ κ2 size pr zs) (hX : ∀ q ∈ X, q ∈ zs) (hs : s ∈ pr) (hF : (F.map (·.1)).Perm (flat κ size mk1 (pr.map (·.1)) X)) (hd : due mk1 (p.2 + size) = true) : totR s.2 ((F.map (·.1)).filter fun r => decide (fR κ2 size r = p)) = totR s.1 ((X.map (·.1)).filter fun r => decide (fR κ size r = p)) := by
  rw [totR_perm s.2 (hF.filter _)]
  have fl : ((flat κ size mk1 (pr.map (·.1)) X).filter fun r => decide (fR κ2 size r = p)) = ((idx κ size mk1 X).filter fun x => decide (x = p)).map (outP κ size (pr.map (·.1)) X) := by
    unfold flat
    rw [List.filter_map]
    refine congrArg _ (List.filter_congr fun x hx => ?_)
    show decide (fR κ2 size (outP κ size (pr.map (·.1)) X x) = p) = decide (x = p)
    rw [fR_out hsz T hX (idx_mem.mp hx).1]
  have nd : (idx κ size mk1 X).Nodup := by
    unfold idx
    exact (dist_nd (f := fK κ size) (xs := X)).filter _
  rw [fl, nd_filter nd]
  by_cases h : p ∈ idx κ size mk1 X
  · rw [if_pos h]
    obtain ⟨⟨q, hq, e⟩, _⟩ := idx_mem.mp h
    have k1 : p.1 = κ q.1 := by rw [← e]; rfl
    have c : s.2.col (outP κ size (pr.map (·.1)) X p) = .int (tot s.1 (cell κ size X p)) := by
      unfold outP
      rw [k1]
      exact T.col s hs q (hX q hq) _ _
    show (([outP κ size (pr.map (·.1)) X p]).map (val1 s.2)).sum = _
    rw [List.map_cons, List.map_nil, List.sum_cons, List.sum_nil]
    have v : val1 s.2 (outP κ size (pr.map (·.1)) X p) = tot s.1 (cell κ size X p) := by
      unfold val1
      rw [if_neg (by rw [T.late s hs]; decide), c]
      show tot s.1 (cell κ size X p) * 1 = _
      omega
    rw [v, tot_R, cell_fst]
    omega
  · rw [if_neg h]
    have em : ((X.map (·.1)).filter fun r => decide (fR κ size r = p)) = [] := List.filter_eq_nil_iff.mpr fun r hr z => by
      obtain ⟨q, hq, rfl⟩ := List.mem_map.mp hr
      exact h (idx_mem.mpr ⟨⟨q, hq, of_decide_eq_true z⟩, hd⟩)
    rw [em]
    rfl
theorem two_steps {Y G : Ln} {mk2 : Int} (hsz : 1 ≤ size) (T : Two κ κ2 size pr (X ++ Y)) (hF : (F.map (·.1)).Perm (flat κ size mk1 (pr.map (·.1)) X)) (hG : (G.map (·.1)).Perm (flat κ size mk2 (pr.map (·.1)) Y)) (h1 : ∀ e, due mk e = true → due mk1 e = true) (h2 : ∀ e, due mk e = true → due mk2 e = true) :
    (flat κ2 size mk (pr.map (·.2)) (F ++ G)).Perm (flat κ size mk (pr.map (·.1)) (X ++ Y)) := by
  have hX : ∀ q ∈ X, q ∈ X ++ Y := fun q h => List.mem_append_left _ h
  have hY : ∀ q ∈ Y, q ∈ X ++ Y := fun q h => List.mem_append_right _ h
  have back : ∀ {X' F' : Ln} {mk' : Int}, (∀ q ∈ X', q ∈ X ++ Y) → (F'.map (·.1)).Perm (flat κ size mk' (pr.map (·.1)) X') → ∀ z ∈ F', ∃ q ∈ X', fK κ size q = fK κ2 size z := fun hX' hF' z hz => by
    have m := hF'.mem_iff.mp (List.mem_map.mpr ⟨z, hz, rfl⟩)
    unfold flat at m
    obtain ⟨x, hx, e⟩ := List.mem_map.mp m
    have w := (idx_mem.mp hx).1
    obtain ⟨q, hq, e2⟩ := w
    refine ⟨q, hq, ?_⟩
    show fK κ size q = fR κ2 size z.1
    rw [← e, fR_out hsz T hX' ⟨q, hq, e2⟩, e2]
  have forth : ∀ {X' F' : Ln} {mk' : Int}, (∀ q ∈ X', q ∈ X ++ Y) → (F'.map (·.1)).Perm (flat κ size mk' (pr.map (·.1)) X') → ∀ q ∈ X', due mk' ((fK κ size q).2 + size) = true → ∃ z ∈ F', fK κ2 size z = fK κ size q := fun {X' F' mk'} hX' hF' q hq hd => by
    have m : outP κ size (pr.map (·.1)) X' (fK κ size q) ∈ flat κ size mk' (pr.map (·.1)) X' := by
      unfold flat
      exact List.mem_map.mpr ⟨_, idx_mem.mpr ⟨⟨q, hq, rfl⟩, hd⟩, rfl⟩
    obtain ⟨z, hz, e⟩ := List.mem_map.mp (hF'.mem_iff.mpr m)
    refine ⟨z, hz, ?_⟩
    show fR κ2 size z.1 = _
    rw [e, fR_out hsz T hX' ⟨q, hq, rfl⟩]
  have ip : (idx κ2 size mk (F ++ G)).Perm (idx κ size mk (X ++ Y)) := by
    refine (List.perm_ext_iff_of_nodup ((dist_nd (f := fK κ2 size) (xs := F ++ G)).filter _) ((dist_nd (f := fK κ size) (xs := X ++ Y)).filter _)).mpr fun p => ?_
    show p ∈ idx κ2 size mk (F ++ G) ↔ p ∈ idx κ size mk (X ++ Y)
    rw [idx_mem, idx_mem]
    constructor
    · rintro ⟨⟨z, hz, e⟩, hd⟩
      refine ⟨?_, hd⟩
      rcases List.mem_append.mp hz with hz | hz
      · obtain ⟨q, hq, e2⟩ := back hX hF z hz
        exact ⟨q, hX q hq, e2.trans e⟩
      · obtain ⟨q, hq, e2⟩ := back hY hG z hz
        exact ⟨q, hY q hq, e2.trans e⟩
    · rintro ⟨⟨q, hq, rfl⟩, hd⟩
      refine ⟨?_, hd⟩
      rcases List.mem_append.mp hq with hq | hq
      · obtain ⟨z, hz, e⟩ := forth hX hF q hq (h1 _ hd)
        exact ⟨z, List.mem_append_left _ hz, e⟩
      · obtain ⟨z, hz, e⟩ := forth hY hG q hq (h2 _ hd)
        exact ⟨z, List.mem_append_right _ hz, e⟩
  unfold flat
  refine (ip.map _).trans ?_
  have e : (idx κ size mk (X ++ Y)).map (outP κ2 size (pr.map (·.2)) (F ++ G)) = (idx κ size mk (X ++ Y)).map (outP κ size (pr.map (·.1)) (X ++ Y)) := by
    refine List.map_congr_left fun p hp => ?_
    have hd := (idx_mem.mp hp).2
    rw [outP_eq, outP_eq, List.map_map, List.map_map]
    congr 3
    refine List.map_congr_left fun s hs => ?_
    show PyData.int (totR s.2 _) = PyData.int (totR s.1 _)
    rw [List.map_append, List.map_append, List.filter_append, List.filter_append, totR_app, totR_app, cell_tot hsz T hX hs hF (h1 _ hd), cell_tot hsz T hY hs hG (h2 _ hd)]
  rw [e]
end Dl
end
section
set_option Elab.async false
set_option linter.all false
set_option autoImplicit false
set_option maxRecDepth 100000
set_option maxHeartbeats 1000000
/-! Q4: the law's rows: keys, lows. -/
namespace Dl
open PySem
def kvOf : PyData → NestedKey
  | .str x => .text x
  | _ => .none
/-- a row's key -/
def κB (b : Bool) (r : Rw) : List NestedKey := if b then [kvOf (r.vs.getD 0 .none)] else []
def tupK (k : List NestedKey) : PyData := .tuple (NestedKey.datas k)
theorem tupK_data (k : List NestedKey) : tupK k = (NestedKey.tup k).data := by
  rw [NestedKey.data]
  rfl
theorem kv_data {d : PyData} (h : d = .none ∨ ∃ x, d = .str x) : (kvOf d).data = d := by
  rcases h with rfl | ⟨x, rfl⟩ <;> rfl
theorem κB_depth (b : Bool) (r : Rw) : NestedKey.depth (.tup (κB b r)) ≤ 1 := by
  cases b with
  | false => simp [κB, NestedKey.depth, NestedKey.depthAll]
  | true =>
    simp only [κB, if_true, NestedKey.depth, NestedKey.depthAll]
    cases r.vs.getD 0 .none <;> simp [kvOf, NestedKey.depth]
theorem toKs_map : ∀ ls : List NestedKey, toKs (ls.map (·.data)) = some ls
  | [] => rfl
  | k :: ls => by
    rw [List.map_cons, toKs, toK_data]
    show (toKs (ls.map (·.data))).bind _ = _
    rw [toKs_map ls]
    rfl
theorem depthAll_le {n : Nat} : ∀ {ls : List NestedKey}, (∀ k ∈ ls, k.depth ≤ n) → NestedKey.depthAll ls ≤ n
  | [], _ => Nat.zero_le _
  | k :: ls, h => by
    rw [NestedKey.depthAll]
    exact Nat.max_le.mpr ⟨h k List.mem_cons_self, depthAll_le fun j hj => h j (List.mem_cons_of_mem _ hj)⟩
theorem inItems_keys {k : NestedKey} {ls : List NestedKey} (hk : k.depth ≤ 60) (hl : ∀ j ∈ ls, j.depth ≤ 60) : inItems k.data (ls.map (·.data)) = some (decide (k ∈ ls)) := by
  unfold inItems
  rw [toK_data]
  show (toKs (ls.map (·.data))).bind _ = _
  rw [toKs_map]
  show (if (shal k.depth && shal (NestedKey.depthAll ls)) = true then some (ls.any fun l => decide (l = k)) else none) = _
  rw [if_pos (by unfold shal; rw [decide_eq_true hk, decide_eq_true (depthAll_le hl)]; rfl)]
  congr 1
  rw [Bool.eq_iff_iff, List.any_eq_true, decide_eq_true_eq]
  exact ⟨fun ⟨x, hx, e⟩ => of_decide_eq_true e ▸ hx, fun h => ⟨k, h, decide_eq_true rfl⟩⟩
theorem in_keys {b : Bool} {r : Rw} {acc : List (List NestedKey)} (ha : ∀ k ∈ acc, ∃ q, k = κB b q) : opIn (tupK (κB b r)) (.list (acc.map tupK)) = some (.bool (decide (κB b r ∈ acc))) := by
  have e : acc.map tupK = (acc.map NestedKey.tup).map (·.data) := by
    rw [List.map_map]
    exact List.map_congr_left fun k _ => tupK_data k
  have z := inItems_keys (k := .tup (κB b r)) (ls := acc.map NestedKey.tup) (Nat.le_trans (κB_depth b r) (by omega)) (fun j hj => by
    obtain ⟨k, hk, rfl⟩ := List.mem_map.mp hj
    obtain ⟨q, rfl⟩ := ha k hk
    exact Nat.le_trans (κB_depth b q) (by omega))
  show (inItems (tupK (κB b r)) (acc.map tupK)).bind _ = _
  rw [e, tupK_data, z]
  have m : (NestedKey.tup (κB b r) ∈ acc.map NestedKey.tup) ↔ κB b r ∈ acc := by
    rw [List.mem_map]
    exact ⟨fun ⟨k, hk, e⟩ => by injection e with e; exact e ▸ hk, fun h => ⟨_, h, rfl⟩⟩
  show some (PyData.bool _) = _
  rw [decide_eq_decide.mpr m]
theorem eq_keys {b : Bool} {r q : Rw} : opEq (tupK (κB b r)) (tupK (κB b q)) = some (.bool (decide (κB b r = κB b q))) := by
  have d : ∀ r, NestedKey.depthAll (κB b r) ≤ 60 := fun r => by
    have := κB_depth b r
    rw [NestedKey.depth] at this
    omega
  show ((toKs (NestedKey.datas (κB b r))).bind fun ks => (toKs (NestedKey.datas (κB b q))).bind fun ls => if (shal (NestedKey.depthAll ks) && shal (NestedKey.depthAll ls)) = true then some (decide (ks = ls)) else none).bind _ = _
  rw [toKs_datas, toKs_datas]
  show (if (shal (NestedKey.depthAll (κB b r)) && shal (NestedKey.depthAll (κB b q))) = true then some (decide (κB b r = κB b q)) else none).bind _ = _
  rw [if_pos (by unfold shal; rw [decide_eq_true (d r), decide_eq_true (d q)]; rfl)]
  rfl
theorem span_data (size b : Int) : spanD size b = (spanK size b).data := by
  unfold spanK
  rw [NestedKey.data]
  rfl
theorem span_depth (size b : Int) : (spanK size b).depth ≤ 60 := by
  simp [spanK, NestedKey.depth, NestedKey.depthAll]
theorem notin_spans {size b : Int} {acc : List Int} : opNotIn (spanD size b) (.list (acc.map (spanD size))) = some (.bool (!decide (b ∈ acc))) := by
  have e : acc.map (spanD size) = (acc.map (spanK size)).map (·.data) := by
    rw [List.map_map]
    exact List.map_congr_left fun k _ => span_data size k
  have z := inItems_keys (k := spanK size b) (ls := acc.map (spanK size)) (span_depth _ _) (fun j hj => by
    obtain ⟨k, hk, rfl⟩ := List.mem_map.mp hj
    exact span_depth _ _)
  show (inItems (spanD size b) (acc.map (spanD size))).bind _ = _
  rw [e, span_data, z]
  have m : (spanK size b ∈ acc.map (spanK size)) ↔ b ∈ acc := by
    rw [List.mem_map]
    exact ⟨fun ⟨k, hk, e⟩ => span_inj e ▸ hk, fun h => ⟨_, h, rfl⟩⟩
  show some (PyData.bool (!_)) = _
  rw [decide_eq_decide.mpr m]
/-- the environment of _law_sum_rows -/
def lE (b : Bool) (rows hows : PyData) (size mk : Int) (keys : PyData) (fnd s7 s8 s9 s10 s11 s12 s13 : Sl) : DEnv := ⟨[.dat rows, .dat (.list (List.replicate (klB b) (.int 0))), .dat (winD size), .dat hows, .dat (.int mk), .dat keys, fnd, s7, s8, s9, s10, s11, s12, s13, .un, .un], none⟩
def keyE : M PyData := e1 tupD (eFz (lComp (iDat (eVar 1)) [14] aName [14] tYes (e2 ixD (e2 ixD (eVar 7) (eC (.int 2))) (eVar 14))))
variable {b : Bool} {rows hows keys : PyData} {size mk : Int} {fnd s7 s8 s9 s10 s11 s12 s13 : Sl}
theorem key_comp {r : Rw} (hr : Drawn r) : keyE (lE b rows hows size mk keys fnd (.dat (encR r)) s8 s9 s10 s11 s12 s13) = some (tupK (κB b r), lE b rows hows size mk keys fnd (.dat (encR r)) s8 s9 s10 s11 s12 s13) := by
  obtain ⟨w, n, e, hw, hn⟩ := hr.vs
  refine e1C (x := .list (NestedKey.datas (κB b r))) (fzC ?_) rfl
  cases b with
  | false => exact comp_all (α := PyData) (e := id) (fun _ => .none) (xs := []) rfl rfl fun _ h => nomatch h
  | true =>
    have d : NestedKey.datas (κB true r) = [w] := by
      show [(kvOf (r.vs.getD 0 .none)).data] = [w]
      rw [e]
      show [(kvOf w).data] = [w]
      rw [kv_data hw]
    rw [d]
    refine comp_all (α := PyData) (e := id) (fun _ => w) (xs := [.int 0]) rfl rfl fun x hx => ⟨[x], rfl, ?_⟩
    rw [List.mem_singleton.mp hx]
    refine e2C (x := .tuple r.vs) (y := .int 0) (e2C (x := encR r) (y := .int 2) rfl rfl rfl) rfl ?_
    rw [e]
    rfl
def keysG : G := sSeq (sSetV 8 (vD keyE)) (sSetV 5 (vD (eIf (tB (e2 opIn (eVar 8) (eVar 5))) (eVar 5) (eFz (lAdd (eVar 5) (eFz (lDisp (aCons (eVar 8) aNil))))))))
theorem keys_loop : ∀ (xs : List Rw) (acc : List (List NestedKey)) (s7 s8 : Sl), (∀ r ∈ xs, Drawn r) → (∀ k ∈ acc, ∃ q, k = κB b q) → acc.length + xs.length ≤ 1000 → NOwn s7 → ∃ t7 t8, NOwn t7 ∧ forGo [7] aName keysG (xs.map encR) (lE b rows hows size mk (.list (acc.map tupK)) fnd s7 s8 s9 s10 s11 s12 s13) = some (.next, lE b rows hows size mk (.list ((distGo (κB b) xs acc).map tupK)) fnd t7 t8 s9 s10 s11 s12 s13)
  | [], acc, s7, s8, _, _, _, h7 => ⟨s7, s8, h7, rfl⟩
  | r :: xs, acc, s7, s8, hd, ha, hl, _ => by
    rw [List.length_cons] at hl
    have hr := hd r List.mem_cons_self
    have k1 := key_comp (b := b) (rows := rows) (hows := hows) (size := size) (mk := mk) (keys := .list (acc.map tupK)) (fnd := fnd) (s8 := s8) (s9 := s9) (s10 := s10) (s11 := s11) (s12 := s12) (s13 := s13) hr
    have t1 : tB (e2 opIn (eVar 8) (eVar 5)) (lE b rows hows size mk (.list (acc.map tupK)) fnd (.dat (encR r)) (.dat (tupK (κB b r))) s9 s10 s11 s12 s13) = some (decide (κB b r ∈ acc), lE b rows hows size mk (.list (acc.map tupK)) fnd (.dat (encR r)) (.dat (tupK (κB b r))) s9 s10 s11 s12 s13) := tbC (e2C (x := tupK (κB b r)) (y := .list (acc.map tupK)) rfl rfl (in_keys ha))
    by_cases h : κB b r ∈ acc
    · obtain ⟨t7, t8, n7, q⟩ := keys_loop xs acc (.dat (encR r)) (.dat (tupK (κB b r))) (fun x hx => hd x (List.mem_cons_of_mem _ hx)) ha (by omega) (.inr ⟨_, rfl⟩)
      refine ⟨t7, t8, n7, ?_⟩
      rw [distGo, if_pos h]
      exact forCons (xs := [encR r]) rfl (seqN (setVC (vDC k1)) (setVC (vDC (eifT (by rw [decide_eq_true h] at t1; exact t1) rfl)))) q
    · obtain ⟨t7, t8, n7, q⟩ := keys_loop xs (acc ++ [κB b r]) (.dat (encR r)) (.dat (tupK (κB b r))) (fun x hx => hd x (List.mem_cons_of_mem _ hx)) (fun k hk => (List.mem_append.mp hk).elim (ha k) fun z => ⟨r, List.mem_singleton.mp z⟩) (by rw [List.length_append, List.length_singleton]; omega) (.inr ⟨_, rfl⟩)
      refine ⟨t7, t8, n7, ?_⟩
      rw [distGo, if_neg h]
      rw [List.map_append] at q
      exact forCons (xs := [encR r]) rfl (seqN (setVC (vDC k1)) (setVC (vDC (eifF (by rw [decide_eq_false h] at t1; exact t1) (fzC (addC (xs := acc.map tupK) (ys := [tupK (κB b r)]) rfl (fzC (dispC (aC (x := tupK (κB b r)) rfl aN) rfl)) (small_of (by rw [List.length_map]; simp; omega)))))))) q
end Dl
end
section
set_option Elab.async false
set_option linter.all false
set_option autoImplicit false
set_option maxRecDepth 100000
set_option maxHeartbeats 1000000
/-! Q5: the law's rows: windows. -/
namespace Dl
open PySem
def mineE : M (List PyData) := lComp (iDat (eVar 0)) [7] aName [7] (tB (e2 opEq keyE (eVar 8))) (eVar 7)
def lowsG : G := sIf (tB (e2 opNe (e2 ixD (eVar 2) (eC (.int 0))) (eC (.str "session")))) (sSetV 10 (vD (eFz (lAdd (eVar 10) (eFz (lComp (iDat (eCall m_law_windows_at (aCons (eVar 2) (aCons (e2 ixD (eVar 7) (eC (.int 0))) aNil)))) [15] aName [15] (tB (e2 opNotIn (eVar 15) (eVar 10))) (eVar 15))))))) sNext
def lotE : M (List PyData) := lComp (iDat (eVar 9)) [7] aName [7] (tB (eChain opLe opLt (eVar 11) (e2 ixD (eVar 7) (eC (.int 0))) (eVar 12))) (eVar 7)
def lputG : G := sApp 6 (eTup (aCons (e2 opSub (eVar 12) (eC (.int 1))) (aCons (eC (.int 1)) (aCons (e2 opAdd (e2 opAdd (eVar 8) (eTup (aCons (eVar 11) (aCons (eVar 12) aNil)))) (eCall m_law_sums_of (aCons (eVar 13) (aCons (eVar 3) aNil)))) aNil))))
def lwinG : G := sIf (tOr (tB (e2 opLe (eVar 12) (eVar 4))) (tB (e2 opEq (eVar 4) (e2 opPow (eC (.int 10)) (eC (.int 9)))))) (sSeq (sSetV 13 (vD (eFz lotE))) lputG) sNext
def lkeyG : G := sSeq (sSetV 9 (vD (eFz mineE))) (sSeq (sSetV 10 (vD (eIf (tB (e2 opEq (e2 ixD (eVar 2) (eC (.int 0))) (eC (.str "session")))) eNo (eFz (lDisp aNil))))) (sSeq (sFor (iDat (eVar 9)) [7] aName lowsG) (sFor (iDat (eVar 10)) [11, 12] (aTup [aName, aName]) lwinG)))
theorem own7 {b : Bool} {rows hows keys : PyData} {size mk : Int} {fnd s7 s8 s9 s10 s11 s12 s13 : Sl} (h : NOwn s7) : ownFree [7] (lE b rows hows size mk keys fnd s7 s8 s9 s10 s11 s12 s13) = true := by
  rcases h with rfl | ⟨d, rfl⟩ <;> rfl
variable {b : Bool} {rows hows keys : PyData} {size mk : Int} {fnd s7 s8 s9 s10 s11 s12 s13 : Sl}
theorem mine_comp {rs : List Rw} {q : Rw} (hd : ∀ r ∈ rs, Drawn r) (hl : rs.length ≤ 1000) (h7 : NOwn s7) : mineE (lE b (.list (rs.map encR)) hows size mk keys fnd s7 (.dat (tupK (κB b q))) s9 s10 s11 s12 s13) = some ((rs.filter fun r => decide (κB b r = κB b q)).map encR, lE b (.list (rs.map encR)) hows size mk keys fnd s7 (.dat (tupK (κB b q))) s9 s10 s11 s12 s13) :=
  comp_pure (e := encR) (fun r => decide (κB b r = κB b q)) encR (xs := rs) rfl (small_of (by omega)) (fun r hr => ⟨[encR r], rfl, tbC (e2C (x := tupK (κB b r)) (y := tupK (κB b q)) (key_comp (hd r hr)) rfl eq_keys), fun _ => rfl⟩) (own7 h7)
theorem lwindows_at {t : Int} (hs : 1 ≤ size) : m_law_windows_at [winD size, .int t] = some (.list [spanD size (lowOf size t)]) := by
  have hmod : opMod (.int t) (.int size) = some (.int (t % size)) := by
    show (if decide (0 < size) = true then _ else _) = _
    rw [if_pos (decide_eq_true (by omega))]
  refine runC (ρ1 := ⟨[.dat (winD size), .dat (.int t), .dat (.int (lowOf size t)), .un], none⟩) (seqR (ifT (tbC (e2C (x := .str "even") (y := .str "even") (e2C (x := winD size) (y := .int 0) rfl rfl rfl) rfl opEq_tt)) (seqN (setVC (vDC (e2C (x := .int t) (y := .int (t % size)) (z := .int (lowOf size t)) rfl (e2C (x := .int t) (y := .int size) (e1C (x := .int t) rfl rfl) (e2C (x := winD size) (y := .int 1) rfl rfl rfl) hmod) rfl))) (retC (fzC (dispC (aC (tupC (aC (x := .int (lowOf size t)) rfl (aC (e2C (x := .int (lowOf size t)) (y := .int size) rfl (e2C (x := winD size) (y := .int 1) rfl rfl rfl) rfl) aN)) rfl) aN) rfl))))))
theorem ne_session : opNe (.str "even") (.str "session") = some (.bool true) := by kernel_rfl
theorem eq_session : opEq (.str "even") (.str "session") = some (.bool false) := by kernel_rfl
theorem lows_loop (hs : 1 ≤ size) : ∀ (xs : List Rw) (acc : List Int) (s7 : Sl), acc.length + xs.length ≤ 1000 → NOwn s7 → ∃ t7, NOwn t7 ∧ forGo [7] aName lowsG (xs.map encR) (lE b rows hows size mk keys fnd s7 s8 s9 (.dat (.list (acc.map (spanD size)))) s11 s12 s13) = some (.next, lE b rows hows size mk keys fnd t7 s8 s9 (.dat (.list ((distGo (fun r : Rw => lowOf size r.t) xs acc).map (spanD size)))) s11 s12 s13)
  | [], acc, s7, _, h7 => ⟨s7, h7, rfl⟩
  | r :: xs, acc, s7, hl, _ => by
    rw [List.length_cons] at hl
    have cm : lComp (iDat (eCall m_law_windows_at (aCons (eVar 2) (aCons (e2 ixD (eVar 7) (eC (.int 0))) aNil)))) [15] aName [15] (tB (e2 opNotIn (eVar 15) (eVar 10))) (eVar 15) (lE b rows hows size mk keys fnd (.dat (encR r)) s8 s9 (.dat (.list (acc.map (spanD size)))) s11 s12 s13) = some (([lowOf size r.t].filter fun x => !decide (x ∈ acc)).map (spanD size), lE b rows hows size mk keys fnd (.dat (encR r)) s8 s9 (.dat (.list (acc.map (spanD size)))) s11 s12 s13) :=
      comp_pure (e := spanD size) (fun x => !decide (x ∈ acc)) (spanD size) (xs := [lowOf size r.t]) (datC (d := .list [spanD size (lowOf size r.t)]) (callC (aC (x := winD size) rfl (aC (e2C (x := encR r) (y := .int 0) (z := .int r.t) rfl rfl rfl) aN)) (lwindows_at hs)) rfl) rfl fun x _ => ⟨[spanD size x], rfl, tbC (e2C (x := spanD size x) (y := .list (acc.map (spanD size))) rfl rfl notin_spans), fun _ => rfl⟩
    have fl : (distGo (fun r : Rw => lowOf size r.t) (r :: xs) acc) = distGo (fun r : Rw => lowOf size r.t) xs (acc ++ [lowOf size r.t].filter fun x => !decide (x ∈ acc)) := by
      rw [distGo]
      by_cases h : lowOf size r.t ∈ acc
      · rw [if_pos h, List.filter_cons_of_neg (by simpa using h), List.filter_nil, List.append_nil]
      · rw [if_neg h, List.filter_cons_of_pos (by simpa using h), List.filter_nil]
    rw [fl]
    have fll := List.length_filter_le (fun x => !decide (x ∈ acc)) [lowOf size r.t]
    generalize ([lowOf size r.t].filter fun x => !decide (x ∈ acc)) = add at cm fll ⊢
    rw [List.length_singleton] at fll
    obtain ⟨t7, n7, q⟩ := lows_loop hs xs (acc ++ add) (.dat (encR r)) (by rw [List.length_append]; omega) (.inr ⟨_, rfl⟩)
    refine ⟨t7, n7, ?_⟩
    have st : lowsG (lE b rows hows size mk keys fnd (.dat (encR r)) s8 s9 (.dat (.list (acc.map (spanD size)))) s11 s12 s13) = some (.next, lE b rows hows size mk keys fnd (.dat (encR r)) s8 s9 (.dat (.list ((acc ++ add).map (spanD size)))) s11 s12 s13) := by
      refine ifT (tbC (e2C (x := .str "even") (y := .str "session") (e2C (x := winD size) (y := .int 0) rfl rfl rfl) rfl ne_session)) (setVC (vDC (fzC (addC (xs := acc.map (spanD size)) (ys := add.map (spanD size)) rfl (fzC cm) (small_of (by rw [List.length_map, List.length_map]; omega))))) ?_)
      rw [List.map_append]
      rfl
    exact forCons (xs := [encR r]) rfl st q
theorem chC {a c d : M PyData} {ρ : DEnv} {i j k : Int} (h1 : a ρ = some (.int i, ρ)) (h2 : c ρ = some (.int j, ρ)) (h3 : d ρ = some (.int k, ρ)) : eChain opLe opLt a c d ρ = some (.bool (decide (i ≤ j) && decide (j < k)), ρ) := by
  have e : opLe (.int i) (.int j) = some (.bool (decide (i ≤ j))) := rfl
  unfold eChain
  rw [h1]
  dsimp only [Option.bind_some]
  rw [h2]
  dsimp only [Option.bind_some]
  rw [e]
  dsimp only [Option.bind_some]
  cases decide (i ≤ j) with
  | true =>
    dsimp only
    rw [h3]
    rfl
  | false => rfl
theorem lot_comp {mine : List Rw} {lo hi : Int} (hl : mine.length ≤ 1000) (h7 : NOwn s7) : lotE (lE b rows hows size mk keys fnd s7 s8 (.dat (.list (mine.map encR))) s10 (.dat (.int lo)) (.dat (.int hi)) s13) = some ((mine.filter fun r => decide (lo ≤ r.t) && decide (r.t < hi)).map encR, lE b rows hows size mk keys fnd s7 s8 (.dat (.list (mine.map encR))) s10 (.dat (.int lo)) (.dat (.int hi)) s13) :=
  comp_pure (e := encR) (fun r => decide (lo ≤ r.t) && decide (r.t < hi)) encR (xs := mine) rfl (small_of (by omega)) (fun r hr => ⟨[encR r], rfl, tbC (chC (i := lo) (j := r.t) (k := hi) rfl (e2C (x := encR r) (y := .int 0) rfl rfl rfl) rfl), fun _ => rfl⟩) (own7 h7)
theorem ldue {e : Int} {s11' : Sl} : tOr (tB (e2 opLe (eVar 12) (eVar 4))) (tB (e2 opEq (eVar 4) (e2 opPow (eC (.int 10)) (eC (.int 9))))) (lE b rows hows size mk keys fnd s7 s8 s9 s10 s11 (.dat (.int e)) s13) = some (due mk e, lE b rows hows size mk keys fnd s7 s8 s9 s10 s11 (.dat (.int e)) s13) := by
  have h1 : tB (e2 opLe (eVar 12) (eVar 4)) (lE b rows hows size mk keys fnd s7 s8 s9 s10 s11 (.dat (.int e)) s13) = some (decide (e ≤ mk), lE b rows hows size mk keys fnd s7 s8 s9 s10 s11 (.dat (.int e)) s13) := tbC (e2C (x := .int e) (y := .int mk) rfl rfl rfl)
  have h2 : tB (e2 opEq (eVar 4) (e2 opPow (eC (.int 10)) (eC (.int 9)))) (lE b rows hows size mk keys fnd s7 s8 s9 s10 s11 (.dat (.int e)) s13) = some (decide (mk = 1000000000), lE b rows hows size mk keys fnd s7 s8 s9 s10 s11 (.dat (.int e)) s13) := tbC (e2C (x := .int mk) (y := .int 1000000000) rfl (e2C (x := .int 10) (y := .int 9) rfl rfl (by rfl)) rfl)
  unfold due
  cases q : decide (e ≤ mk) with
  | true =>
    rw [q] at h1
    exact orT h1
  | false =>
    rw [q] at h1
    rw [Bool.false_or]
    exact orF h1 h2
end Dl
end
section
set_option Elab.async false
set_option linter.all false
set_option autoImplicit false
set_option maxRecDepth 100000
set_option maxHeartbeats 1000000
/-! Q6: the law's rows: all keys. -/
namespace Dl
open PySem
def lift (rs : List Rw) : Ln := rs.map fun r => (r, PyData.none)
/-- the law's rows of a key -/
def rowsL (κ : List PyData) (size mk : Int) (sps : List Sp3) (mine : List Rw) (ws : List Int) : List Rw := (ws.filter fun c => due mk (c + size)).map fun c => outRow κ size c sps (lift (mine.filter fun r => decide (lowOf size r.t = c)))
theorem low_iff {size t c : Int} (hs : 1 ≤ size) (ht : 0 ≤ t) (hc : c % size = 0) : (decide (c ≤ t) && decide (t < c + size)) = decide (lowOf size t = c) := by
  obtain ⟨b1, b2, b3, b4⟩ := low_bounds hs ht
  rw [Bool.eq_iff_iff]
  simp only [Bool.and_eq_true, decide_eq_true_eq]
  constructor
  · rintro ⟨h1, h2⟩
    have e1 : t = (t - c) + size * (c / size) := by
      have := Int.emod_add_mul_ediv c size
      omega
    have e2 : t % size = t - c := by
      rw [e1, Int.add_mul_emod_self_left]
      exact (Int.emod_eq_of_lt (by omega) (by omega)).trans (by omega)
    unfold lowOf
    omega
  · intro h
    omega
/-- what the law needs of hows and sums -/
structure SpsOk (hows : List Str) (sps : List Sp3) : Prop where
  how : ∀ h ∈ hows, IsHow h
  few : hows.length ≤ 10
  tot : ∀ rs : List Rw, (sps.map fun s => PyData.int (tot s (lift rs))) = hows.map fun h => .int (totH h rs)
variable {b : Bool} {rows keys : PyData} {hows : List Str} {sps : List Sp3} {size mk : Int} {s7 s8 s9 s10 s11 s12 s13 : Sl}
theorem lput_turn {fnd lot : List Rw} {k : List NestedKey} {c : Int} (O : SpsOk hows sps) (hk : k.length ≤ 1) (hd : ∀ r ∈ lot, Drawn r) (hl : lot.length ≤ 1000) (hf : fnd.length ≤ 50000) : lputG (lE b rows (.list (hows.map hwD)) size mk keys (.lst (fnd.map encR)) s7 (.dat (tupK k)) s9 s10 (.dat (.int c)) (.dat (.int (c + size))) (.dat (.list (lot.map encR)))) = some (.next, lE b rows (.list (hows.map hwD)) size mk keys (.lst ((fnd ++ [outRow (NestedKey.datas k) size c sps (lift lot)]).map encR)) s7 (.dat (tupK k)) s9 s10 (.dat (.int c)) (.dat (.int (c + size))) (.dat (.list (lot.map encR)))) := by
  have s1 := lsums_ok O.how hd hl (by have := O.few; omega)
  have few := O.few
  have dl : (NestedKey.datas k).length ≤ 1 := by rw [datas_len]; exact hk
  have er : encR (outRow (NestedKey.datas k) size c sps (lift lot)) = .tuple [.int (c + size - 1), .int 1, .tuple ((NestedKey.datas k ++ [.int c, .int (c + size)]) ++ hows.map fun h => .int (totH h lot))] := by
    unfold encR outRow
    rw [O.tot, List.append_assoc]
  refine appC (l := fnd.map encR) (x := encR (outRow (NestedKey.datas k) size c sps (lift lot))) (ρ1 := lE b rows (.list (hows.map hwD)) size mk keys (.lst (fnd.map encR)) s7 (.dat (tupK k)) s9 s10 (.dat (.int c)) (.dat (.int (c + size))) (.dat (.list (lot.map encR)))) rfl ?_ rfl (small_of (by rw [List.length_map]; omega)) (by rw [List.map_append]; rfl)
  rw [er]
  generalize hlot : lot.map encR = ld at s1 ⊢
  generalize hhow : hows.map hwD = hd at s1 ⊢
  refine tupC (aC (x := .int (c + size - 1)) (e2C (x := .int (c + size)) (y := .int 1) rfl rfl rfl) (aC (x := .int 1) rfl (aC (e2C (x := .tuple (NestedKey.datas k ++ [.int c, .int (c + size)])) (y := .tuple (hows.map fun h => .int (totH h lot))) (e2C (x := tupK k) (y := .tuple [.int c, .int (c + size)]) rfl (tupC (aC (x := .int c) rfl (aC (x := .int (c + size)) rfl aN)) rfl) ?_) (callC (aC (x := .list ld) rfl (aC (x := .list hd) rfl aN)) s1) ?_) aN))) rfl
  · show (if small ((NestedKey.datas k).length + 2) = true then _ else _) = _
    rw [if_pos (small_of (by omega))]
  · show (if small ((NestedKey.datas k ++ [PyData.int c, .int (c + size)]).length + (hows.map fun h => PyData.int (totH h lot)).length) = true then _ else _) = _
    rw [if_pos (small_of (by rw [List.length_append, List.length_map]; simp; omega))]
theorem lwin_loop {mine : List Rw} {k : List NestedKey} (hs : 1 ≤ size) (O : SpsOk hows sps) (hk : k.length ≤ 1) (hd : ∀ r ∈ mine, Drawn r) (hl : mine.length ≤ 1000) (h7 : NOwn s7) : ∀ (ws : List Int) (fnd : List Rw) (s11 s12 s13 : Sl), (∀ c ∈ ws, c % size = 0) → fnd.length + ws.length ≤ 40000 → ∃ t11 t12 t13, forGo [11, 12] (aTup [aName, aName]) lwinG (ws.map (spanD size)) (lE b rows (.list (hows.map hwD)) size mk keys (.lst (fnd.map encR)) s7 (.dat (tupK k)) (.dat (.list (mine.map encR))) s10 s11 s12 s13) = some (.next, lE b rows (.list (hows.map hwD)) size mk keys (.lst ((fnd ++ rowsL (NestedKey.datas k) size mk sps mine ws).map encR)) s7 (.dat (tupK k)) (.dat (.list (mine.map encR))) s10 t11 t12 t13)
  | [], fnd, s11, s12, s13, _, _ => ⟨s11, s12, s13, by unfold rowsL; rw [List.filter_nil, List.map_nil, List.map_nil, List.append_nil]; rfl⟩
  | c :: ws, fnd, s11, s12, s13, hc, hf => by
    rw [List.length_cons] at hf
    have t1 := ldue (b := b) (rows := rows) (hows := .list (hows.map hwD)) (keys := keys) (size := size) (mk := mk) (fnd := .lst (fnd.map encR)) (s7 := s7) (s8 := .dat (tupK k)) (s9 := .dat (.list (mine.map encR))) (s10 := s10) (s11 := .dat (.int c)) (s13 := s13) (e := c + size) (s11' := .un)
    have rl : rowsL (NestedKey.datas k) size mk sps mine (c :: ws) = (if due mk (c + size) then [outRow (NestedKey.datas k) size c sps (lift (mine.filter fun r => decide (lowOf size r.t = c)))] else []) ++ rowsL (NestedKey.datas k) size mk sps mine ws := by
      unfold rowsL
      cases q : due mk (c + size) with
      | true => rw [List.filter_cons_of_pos (by exact q), List.map_cons, if_pos rfl]; rfl
      | false => rw [List.filter_cons_of_neg (by rw [q]; exact Bool.false_ne_true), if_neg Bool.false_ne_true]; rfl
    rw [rl]
    cases q : due mk (c + size) with
    | false =>
      rw [q] at t1
      obtain ⟨t11, t12, t13, st⟩ := lwin_loop hs O hk hd hl h7 ws fnd (.dat (.int c)) (.dat (.int (c + size))) s13 (fun e he => hc e (List.mem_cons_of_mem _ he)) (by omega)
      rw [if_neg Bool.false_ne_true, List.nil_append]
      exact ⟨t11, t12, t13, forCons (xs := [.int c, .int (c + size)]) rfl (ifF t1 rfl) st⟩
    | true =>
      rw [q] at t1
      rw [if_pos rfl]
      have cm := lot_comp (b := b) (rows := rows) (hows := .list (hows.map hwD)) (keys := keys) (size := size) (mk := mk) (fnd := .lst (fnd.map encR)) (s7 := s7) (s8 := .dat (tupK k)) (s10 := s10) (s13 := s13) (mine := mine) (lo := c) (hi := c + size) hl h7
      have fe : (mine.filter fun r => decide (c ≤ r.t) && decide (r.t < c + size)) = mine.filter fun r => decide (lowOf size r.t = c) := List.filter_congr fun r hr => low_iff hs (hd r hr).t0 (hc c List.mem_cons_self)
      rw [fe] at cm
      have pt := lput_turn (b := b) (rows := rows) (keys := keys) (size := size) (mk := mk) (s7 := s7) (s9 := .dat (.list (mine.map encR))) (s10 := s10) (fnd := fnd) (lot := mine.filter fun r => decide (lowOf size r.t = c)) (k := k) (c := c) O hk (fun r hr => hd r (List.mem_filter.mp hr).1) (Nat.le_trans (List.length_filter_le _ _) hl) (by omega)
      obtain ⟨t11, t12, t13, st⟩ := lwin_loop hs O hk hd hl h7 ws (fnd ++ [outRow (NestedKey.datas k) size c sps (lift (mine.filter fun r => decide (lowOf size r.t = c)))]) (.dat (.int c)) (.dat (.int (c + size))) (.dat (.list ((mine.filter fun r => decide (lowOf size r.t = c)).map encR))) (fun e he => hc e (List.mem_cons_of_mem _ he)) (by rw [List.length_append, List.length_singleton]; omega)
      rw [List.append_assoc] at st
      exact ⟨t11, t12, t13, forCons (xs := [.int c, .int (c + size)]) rfl (ifT t1 (seqN (setVC (vDC (fzC cm))) pt)) st⟩
end Dl
end
section
set_option Elab.async false
set_option linter.all false
set_option autoImplicit false
set_option maxRecDepth 100000
set_option maxHeartbeats 1000000
/-! Q7: _law_sum_rows, whole. -/
namespace Dl
open PySem
def lowsOf (size : Int) (mine : List Rw) : List Int := dist (fun r : Rw => lowOf size r.t) mine
def rowsLK (b : Bool) (size mk : Int) (sps : List Sp3) (rs : List Rw) (ks : List (List NestedKey)) : List Rw := ks.flatMap fun k => rowsL (NestedKey.datas k) size mk sps (rs.filter fun r => decide (κB b r = k)) (lowsOf size (rs.filter fun r => decide (κB b r = k)))
variable {b : Bool} {hows : List Str} {sps : List Sp3} {size mk : Int}
theorem κB_len (b : Bool) (r : Rw) : (κB b r).length ≤ 1 := by
  cases b <;> simp [κB]
theorem rowsL_len {κ : List PyData} {mine : List Rw} {ws : List Int} : (rowsL κ size mk sps mine ws).length ≤ ws.length := by
  unfold rowsL
  rw [List.length_map]
  exact List.length_filter_le _ _
theorem lkey_turn {rs fnd : List Rw} {q : Rw} {keys : PyData} {s7 s9 s10 s11 s12 s13 : Sl} (hs : 1 ≤ size) (O : SpsOk hows sps) (hd : ∀ r ∈ rs, Drawn r) (hl : rs.length ≤ 1000) (h7 : NOwn s7) (hf : fnd.length ≤ 30000) : ∃ t7 t9 t10 t11 t12 t13, NOwn t7 ∧ lkeyG (lE b (.list (rs.map encR)) (.list (hows.map hwD)) size mk keys (.lst (fnd.map encR)) s7 (.dat (tupK (κB b q))) s9 s10 s11 s12 s13) = some (.next, lE b (.list (rs.map encR)) (.list (hows.map hwD)) size mk keys (.lst ((fnd ++ rowsL (NestedKey.datas (κB b q)) size mk sps (rs.filter fun r => decide (κB b r = κB b q)) (lowsOf size (rs.filter fun r => decide (κB b r = κB b q)))).map encR)) t7 (.dat (tupK (κB b q))) t9 t10 t11 t12 t13) := by
  have cm := mine_comp (b := b) (hows := .list (hows.map hwD)) (keys := keys) (size := size) (mk := mk) (fnd := .lst (fnd.map encR)) (s7 := s7) (s9 := s9) (s10 := s10) (s11 := s11) (s12 := s12) (s13 := s13) (rs := rs) (q := q) hd hl h7
  have hml : (rs.filter fun r => decide (κB b r = κB b q)).length ≤ 1000 := Nat.le_trans (List.length_filter_le _ _) hl
  have hmd : ∀ r ∈ (rs.filter fun r => decide (κB b r = κB b q)), Drawn r := fun r hr => hd r (List.mem_filter.mp hr).1
  generalize (rs.filter fun r => decide (κB b r = κB b q)) = mine at cm hml hmd ⊢
  obtain ⟨t7, n7, st1⟩ := lows_loop (b := b) (rows := .list (rs.map encR)) (hows := .list (hows.map hwD)) (keys := keys) (mk := mk) (fnd := .lst (fnd.map encR)) (s8 := .dat (tupK (κB b q))) (s9 := .dat (.list (mine.map encR))) (s11 := s11) (s12 := s12) (s13 := s13) hs mine [] s7 (by simp; omega) h7
  obtain ⟨t11, t12, t13, st2⟩ := lwin_loop (b := b) (rows := .list (rs.map encR)) (keys := keys) (sps := sps) (mk := mk) (s10 := .dat (.list ((lowsOf size mine).map (spanD size)))) (mine := mine) (k := κB b q) hs O (κB_len b q) hmd hml n7 (lowsOf size mine) fnd s11 s12 s13 (fun c hc => by
    obtain ⟨r, _, rfl⟩ := dist_mem.mp hc
    exact low_mod hs) (by
    have := dist_len (f := fun r : Rw => lowOf size r.t) (xs := mine)
    unfold lowsOf
    omega)
  refine ⟨t7, .dat (.list (mine.map encR)), .dat (.list ((lowsOf size mine).map (spanD size))), t11, t12, t13, n7, ?_⟩
  refine seqN (setVC (vDC (fzC cm))) (seqN (setVC (s := .dat (.list [])) (vDC (eifF (tbC (e2C (x := .str "even") (y := .str "session") (e2C (x := winD size) (y := .int 0) rfl rfl rfl) rfl eq_session)) (fzC (dispC aN rfl))))) (seqN (forC (ds := mine.map encR) (ρ1 := lE b (.list (rs.map encR)) (.list (hows.map hwD)) size mk keys (.lst (fnd.map encR)) s7 (.dat (tupK (κB b q))) (.dat (.list (mine.map encR))) (.dat (.list [])) s11 s12 s13) rfl st1) (forC (ds := (lowsOf size mine).map (spanD size)) rfl st2)))
theorem lkey_loop {rs : List Rw} {keys : PyData} (hs : 1 ≤ size) (O : SpsOk hows sps) (hd : ∀ r ∈ rs, Drawn r) (hl : rs.length ≤ 100) : ∀ (ks : List (List NestedKey)) (fnd : List Rw) (s7 s8 s9 s10 s11 s12 s13 : Sl), (∀ k ∈ ks, ∃ q, k = κB b q) → fnd.length + 100 * ks.length ≤ 20000 → NOwn s7 → ∃ t7 t8 t9 t10 t11 t12 t13, NOwn t7 ∧ forGo [8] aName lkeyG (ks.map tupK) (lE b (.list (rs.map encR)) (.list (hows.map hwD)) size mk keys (.lst (fnd.map encR)) s7 s8 s9 s10 s11 s12 s13) = some (.next, lE b (.list (rs.map encR)) (.list (hows.map hwD)) size mk keys (.lst ((fnd ++ rowsLK b size mk sps rs ks).map encR)) t7 t8 t9 t10 t11 t12 t13)
  | [], fnd, s7, s8, s9, s10, s11, s12, s13, _, _, h7 => ⟨s7, s8, s9, s10, s11, s12, s13, h7, by unfold rowsLK; rw [List.flatMap_nil, List.append_nil]; rfl⟩
  | k :: ks, fnd, s7, s8, s9, s10, s11, s12, s13, hk, hf, h7 => by
    rw [List.length_cons] at hf
    obtain ⟨q, rfl⟩ := hk k List.mem_cons_self
    obtain ⟨u7, u9, u10, u11, u12, u13, m7, st1⟩ := lkey_turn (b := b) (mk := mk) (keys := keys) (fnd := fnd) (q := q) (s7 := s7) (s9 := s9) (s10 := s10) (s11 := s11) (s12 := s12) (s13 := s13) hs O hd (by omega) h7 (by omega)
    have rl : (rowsL (NestedKey.datas (κB b q)) size mk sps (rs.filter fun r => decide (κB b r = κB b q)) (lowsOf size (rs.filter fun r => decide (κB b r = κB b q)))).length ≤ 100 := by
      refine Nat.le_trans rowsL_len (Nat.le_trans dist_len (Nat.le_trans (List.length_filter_le _ _) hl))
    obtain ⟨t7, t8, t9, t10, t11, t12, t13, n7, st2⟩ := lkey_loop hs O hd hl ks (fnd ++ rowsL (NestedKey.datas (κB b q)) size mk sps (rs.filter fun r => decide (κB b r = κB b q)) (lowsOf size (rs.filter fun r => decide (κB b r = κB b q)))) u7 (.dat (tupK (κB b q))) u9 u10 u11 u12 u13 (fun j hj => hk j (List.mem_cons_of_mem _ hj)) (by rw [List.length_append]; omega) m7
    rw [List.append_assoc] at st2
    exact ⟨t7, t8, t9, t10, t11, t12, t13, n7, forCons (xs := [tupK (κB b q)]) rfl st1 st2⟩
/-! ### the law's order -/
def lrankD : PyData → PyData
  | .int i => .tuple [.int 1, .int i, .str ""]
  | .str x => .tuple [.int 2, .int 0, .str x]
  | _ => .tuple [.int 0, .int 0, .str ""]
theorem lrank_eq {d : PyData} (h : Val d) : m_law_rank [d] = some (lrankD d) := by
  cases h <;> rfl
def lplace (r : Rw) : PyData := .tuple [.int r.t, .int r.sg, .tuple (r.vs.map lrankD)]
theorem lranks_eq {vs : List PyData} (h : ∀ v ∈ vs, Val v) (hs : small vs.length = true) : m_law_ranks [.tuple vs] = some (.tuple (vs.map lrankD)) := by
  have z : lComp (iDat (eVar 0)) [1] aName [1] tYes (eCall m_law_rank (aCons (eVar 1) aNil)) ⟨[.dat (.tuple vs), .un], none⟩ = some (vs.map lrankD, ⟨[.dat (.tuple vs), .un], none⟩) := by
    refine comp_all (e := id) lrankD (by rw [List.map_id]; rfl) hs fun v hv => ⟨[v], rfl, ?_⟩
    exact callC (aC (x := v) rfl aN) (lrank_eq (h v hv))
  exact runC (retC (e1C (fzC z) rfl))
theorem lplace_eq {r : Rw} (h : RwOk r) : m_law_given_rank [encR r] = some (lplace r) := by
  have hf := h.few
  exact runC (retC (tupC (aC (x := .int r.t) (e2C (x := encR r) (y := .int 0) rfl rfl rfl) (aC (x := .int r.sg) (e2C (x := encR r) (y := .int 1) rfl rfl rfl) (aC (callC (aC (x := .tuple r.vs) (e2C (x := encR r) (y := .int 2) rfl rfl rfl) aN) (lranks_eq h.flat (small_of (by omega)))) aN))) rfl))
theorem alike_maps {α β : Type} {f : α → PyData} {g : β → PyData} : ∀ (xs : List α) (ys : List β), (∀ x ∈ xs, ∀ y ∈ ys, PySem.W.alike (f x) (g y) = true) → PySem.W.alikeAll (xs.map f) (ys.map g) = true
  | [], ys, _ => by cases ys <;> rfl
  | x :: xs, [], _ => rfl
  | x :: xs, y :: ys, h => by
    rw [List.map_cons, List.map_cons, PySem.W.alikeAll, h x List.mem_cons_self y List.mem_cons_self, alike_maps xs ys fun a ha c hc => h a (List.mem_cons_of_mem _ ha) c (List.mem_cons_of_mem _ hc)]
    rfl
/-- can be a key, not deep -/
def KD (n : Nat) (d : PyData) : Prop := (toK d).isSome = true ∧ d.depth ≤ n
theorem KD.tup {n : Nat} {ds : List PyData} (h : ∀ d ∈ ds, KD n d) : KD (n + 1) (.tuple ds) := by
  have z : (toKs ds).isSome = true ∧ PyData.depthAll ds ≤ n := by
    induction ds with
    | nil => exact ⟨rfl, Nat.zero_le _⟩
    | cons d ds ih =>
      obtain ⟨i1, i2⟩ := ih fun e he => h e (List.mem_cons_of_mem _ he)
      obtain ⟨h1, h2⟩ := h d List.mem_cons_self
      obtain ⟨k, hk⟩ := Option.isSome_iff_exists.mp h1
      obtain ⟨ks, hks⟩ := Option.isSome_iff_exists.mp i1
      refine ⟨?_, ?_⟩
      · rw [toKs, hk]
        show ((toKs ds).bind fun ks => some (k :: ks)).isSome = true
        rw [hks]
        rfl
      · rw [PyData.depthAll]
        exact Nat.max_le.mpr ⟨h2, i2⟩
  obtain ⟨ks, hks⟩ := Option.isSome_iff_exists.mp z.1
  refine ⟨?_, ?_⟩
  · rw [toK, hks]
    rfl
  · rw [PyData.depth]
    omega
theorem KD.mono {n m : Nat} {d : PyData} (h : KD n d) (hn : n ≤ m) : KD m d := ⟨h.1, Nat.le_trans h.2 hn⟩
theorem KD.int (i : Int) : KD 0 (.int i) := ⟨rfl, Nat.le_refl _⟩
theorem KD.str (x : Str) : KD 0 (.str x) := ⟨rfl, Nat.le_refl _⟩
theorem KD.one {n : Nat} {d : PyData} {ds : List PyData} (h : KD n d) (hs : ∀ e ∈ ds, KD n e) : ∀ e ∈ d :: ds, KD n e := fun e he => by
  rcases List.mem_cons.mp he with rfl | he
  · exact h
  · exact hs e he
theorem KD.nil {n : Nat} : ∀ e ∈ ([] : List PyData), KD n e := fun e h => nomatch h
theorem kd_lrank (d : PyData) : KD 1 (lrankD d) := by
  cases d <;> exact KD.tup (KD.one (.int _) (KD.one (.int _) (KD.one (.str _) KD.nil)))
theorem kd_lplace (r : Rw) : KD 3 (lplace r) := by
  refine KD.tup (KD.one ((KD.int _).mono (by omega)) (KD.one ((KD.int _).mono (by omega)) (KD.one (KD.tup fun d hd => ?_) KD.nil)))
  obtain ⟨v, _, rfl⟩ := List.mem_map.mp hd
  exact kd_lrank v
theorem alike_lrank (d e : PyData) : PySem.W.alike (lrankD d) (lrankD e) = true := by
  cases d <;> cases e <;> rfl
theorem alike_lplace (r q : Rw) : PySem.W.alike (lplace r) (lplace q) = true := by
  show (true && (true && (PySem.W.alikeAll (r.vs.map lrankD) (q.vs.map lrankD) && true))) = true
  rw [alike_maps _ _ fun x _ y _ => alike_lrank x y]
  rfl
theorem alikeOk_of {α : Type} {f : α → PyData} {xs : List α} (h1 : ∀ x ∈ xs, ∀ y ∈ xs, PySem.W.alike (f x) (f y) = true) (h2 : ∀ x ∈ xs, ∃ d ds, f x = .tuple (d :: ds)) (h3 : ∀ x ∈ xs, KD 60 (f x)) : alikeOk (xs.map f) = true := by
  unfold alikeOk
  simp only [Bool.and_eq_true]
  refine ⟨⟨List.all_eq_true.mpr fun d hd => List.all_eq_true.mpr fun e he => ?_, List.all_eq_true.mpr fun d hd => ?_⟩, List.all_eq_true.mpr fun d hd => ?_⟩
  · obtain ⟨x, hx, rfl⟩ := List.mem_map.mp hd
    obtain ⟨y, hy, rfl⟩ := List.mem_map.mp he
    exact h1 x hx y hy
  · obtain ⟨x, hx, rfl⟩ := List.mem_map.mp hd
    obtain ⟨e, es, q⟩ := h2 x hx
    rw [q]
  · obtain ⟨x, hx, rfl⟩ := List.mem_map.mp hd
    obtain ⟨g1, g2⟩ := h3 x hx
    rw [Bool.and_eq_true]
    exact ⟨decide_eq_true g2, g1⟩
end Dl
end
section
set_option Elab.async false
set_option linter.all false
set_option autoImplicit false
set_option maxRecDepth 100000
set_option maxHeartbeats 1000000
/-! Q8: m_law_sum_rows. -/
namespace Dl
open PySem
theorem distGo_map {α β γ : Type} [DecidableEq γ] {f : β → γ} {g : α → β} : ∀ (xs : List α) (acc : List γ), distGo f (xs.map g) acc = distGo (fun x => f (g x)) xs acc
  | [], acc => rfl
  | x :: xs, acc => by
    rw [List.map_cons, distGo, distGo]
    split <;> exact distGo_map xs _
theorem dist_map {α β γ : Type} [DecidableEq γ] {f : β → γ} {g : α → β} (xs : List α) : dist f (xs.map g) = dist (fun x => f (g x)) xs := distGo_map xs []
theorem lift_filter {P : Rw → Bool} : ∀ rs : List Rw, (lift rs).filter (fun q => P q.1) = lift (rs.filter P)
  | [] => rfl
  | r :: rs => by
    have ih := lift_filter (P := P) rs
    unfold lift at *
    rw [List.map_cons]
    cases h : P r with
    | true => rw [List.filter_cons_of_pos (by exact h), List.filter_cons_of_pos h, ih, List.map_cons]
    | false => rw [List.filter_cons_of_neg (by simp [h]), List.filter_cons_of_neg (by simp [h]), ih]
theorem lift_fst (rs : List Rw) : (lift rs).map (·.1) = rs := by
  unfold lift
  rw [List.map_map]
  exact List.map_id rs
variable {b : Bool} {hows : List Str} {sps : List Sp3} {size mk : Int}
theorem rowsLK_eq {rs : List Rw} : rowsLK b size mk sps rs (dist (κB b) rs) = rowsK size mk sps (groupsOf (fun q => κB b q.1) (lift rs)) := by
  have one : ∀ k, rowsL (NestedKey.datas k) size mk sps (rs.filter fun r => decide (κB b r = k)) (lowsOf size (rs.filter fun r => decide (κB b r = k))) = rowsW (NestedKey.datas k) size mk sps (winsOf size ((lift rs).filter fun q => decide (κB b q.1 = k))) := fun k => by
    rw [lift_filter (P := fun r => decide (κB b r = k))]
    generalize (rs.filter fun r => decide (κB b r = k)) = mine
    unfold rowsL rowsW winsOf lowsOf lift
    rw [dist_map, List.filter_map, List.map_map]
    refine List.map_congr_left fun c _ => ?_
    show outRow (NestedKey.datas k) size c sps _ = outRow (NestedKey.datas k) size c sps _
    refine congrArg (outRow (NestedKey.datas k) size c sps) ?_
    exact (lift_filter (P := fun r => decide (lowOf size r.t = c)) mine).symm
  unfold rowsLK rowsK groupsOf
  have dm : dist (fun q : Rw × PyData => κB b q.1) (lift rs) = dist (κB b) rs := by
    unfold lift
    rw [dist_map]
  rw [dm]
  generalize dist (κB b) rs = ks
  induction ks with
  | nil => rfl
  | cons k ks ih => rw [List.flatMap_cons, List.map_cons, List.flatMap_cons, ih, one]
theorem val_datas {b : Bool} {q : Rw} : ∀ v ∈ NestedKey.datas (κB b q), Val v := by
  cases b with
  | false => exact fun v h => nomatch h
  | true =>
    intro v h
    have h' : v ∈ [(kvOf (q.vs.getD 0 .none)).data] := h
    rw [List.mem_singleton.mp h']
    cases q.vs.getD 0 .none <;> first | exact Val.non | exact Val.str _
/-- an out row -/
def IsOut (b : Bool) (size : Int) (sps : List Sp3) (r : Rw) : Prop := ∃ (q : Rw) (c : Int) (line : Ln), r = outRow (NestedKey.datas (κB b q)) size c sps line
theorem out_ok {r : Rw} (h : IsOut b size sps r) (hs : sps.length ≤ 10) : RwOk r := by
  obtain ⟨q, c, line, rfl⟩ := h
  refine ⟨fun v hv => ?_, ?_⟩
  · rcases List.mem_append.mp hv with h | h
    · exact val_datas v h
    · rcases List.mem_append.mp h with h | h
      · rcases List.mem_cons.mp h with rfl | h
        · exact .int _
        · rw [List.mem_singleton.mp h]
          exact .int _
      · obtain ⟨s, _, rfl⟩ := List.mem_map.mp h
        exact .int _
  · have := κB_len b q
    show (NestedKey.datas (κB b q) ++ ([PyData.int c, .int (c + size)] ++ sps.map fun s => PyData.int (tot s line))).length ≤ 20
    rw [List.length_append, List.length_append, List.length_map, datas_len]
    simp
    omega
theorem flat_out {xs : Ln} {r : Rw} (h : r ∈ flat (κB b) size mk sps xs) : IsOut b size sps r := by
  unfold flat at h
  obtain ⟨p, hp, rfl⟩ := List.mem_map.mp h
  obtain ⟨⟨q, _, e⟩, _⟩ := idx_mem.mp hp
  refine ⟨q.1, p.2, cell (κB b) size xs p, ?_⟩
  have : p.1 = κB b q.1 := by rw [← e]; rfl
  unfold outP
  rw [this]
theorem flat_len {κ : Rw → List NestedKey} {xs : Ln} : (flat κ size mk sps xs).length ≤ xs.length := by
  unfold flat idx
  rw [List.length_map]
  exact Nat.le_trans (List.length_filter_le _ _) dist_len
theorem m_lsum_eq {rs : List Rw} (hs : 1 ≤ size) (O : SpsOk hows sps) (hsp : sps.length ≤ 10) (hd : ∀ r ∈ rs, Drawn r) (hl : rs.length ≤ 100) : ∃ out : List Rw, out.Perm (flat (κB b) size mk sps (lift rs)) ∧ m_law_sum_rows [.list (rs.map encR), .list (List.replicate (klB b) (.int 0)), winD size, .list (hows.map hwD), .int mk] = some (.list (out.map encR)) := by
  obtain ⟨t7, t8, n7, st1⟩ := keys_loop (b := b) (rows := .list (rs.map encR)) (hows := .list (hows.map hwD)) (size := size) (mk := mk) (fnd := .lst ([].map encR)) (s9 := .un) (s10 := .un) (s11 := .un) (s12 := .un) (s13 := .un) rs [] .un .un hd (fun k h => nomatch h) (by simp; omega) (.inl rfl)
  have dl := dist_len (f := κB b) (xs := rs)
  obtain ⟨u7, u8, u9, u10, u11, u12, u13, m7, st2⟩ := lkey_loop (b := b) (mk := mk) (rs := rs) (keys := .list ((dist (κB b) rs).map tupK)) hs O hd hl (dist (κB b) rs) [] t7 t8 .un .un .un .un .un (fun k hk => by
    obtain ⟨q, _, rfl⟩ := dist_mem.mp hk
    exact ⟨q, rfl⟩) (by simp; omega) n7
  rw [List.nil_append, rowsLK_eq] at st2
  have pf := rowsK_flat (κ := κB b) (size := size) (mk := mk) (sps := sps) (xs := lift rs)
  generalize rowsK size mk sps (groupsOf (fun q => κB b q.1) (lift rs)) = found at st2 pf
  have isout : ∀ r ∈ found, RwOk r := fun r hr => out_ok (flat_out (pf.mem_iff.mp hr)) hsp
  have fl : found.length ≤ 100 := by
    have h1 := pf.length_eq
    have h2 := flat_len (κ := κB b) (size := size) (mk := mk) (sps := sps) (xs := lift rs)
    have h3 : (lift rs).length = rs.length := by unfold lift; rw [List.length_map]
    omega
  have srt := sortC (m := m_law_given_rank) (e := encR) (k := lplace) (xs := found) (a := eVar 6) (ρ := lE b (.list (rs.map encR)) (.list (hows.map hwD)) size mk (.list ((dist (κB b) rs).map tupK)) (.lst (found.map encR)) u7 u8 u9 u10 u11 u12 u13) rfl (fun r hr => lplace_eq (isout r hr)) (small_of (by omega)) (alikeOk_of (fun r _ q _ => alike_lplace r q) (fun r _ => ⟨_, _, rfl⟩) fun r _ => (kd_lplace r).mono (by omega))
  obtain ⟨out, po, so⟩ := srt
  refine ⟨out, po.trans pf, ?_⟩
  have st2' : forGo [8] aName lkeyG ((dist (κB b) rs).map tupK) (lE b (.list (rs.map encR)) (.list (hows.map hwD)) size mk (.list ((dist (κB b) rs).map tupK)) (.lst ([].map encR)) t7 t8 .un .un .un .un .un) = some (.next, lE b (.list (rs.map encR)) (.list (hows.map hwD)) size mk (.list ((dist (κB b) rs).map tupK)) (.lst (found.map encR)) u7 u8 u9 u10 u11 u12 u13) := st2
  have st1' : forGo [7] aName keysG (rs.map encR) (lE b (.list (rs.map encR)) (.list (hows.map hwD)) size mk (.list ([].map tupK)) (.lst ([].map encR)) .un .un .un .un .un .un .un) = some (.next, lE b (.list (rs.map encR)) (.list (hows.map hwD)) size mk (.list ((dist (κB b) rs).map tupK)) (.lst ([].map encR)) t7 t8 .un .un .un .un .un) := st1
  refine runC (seqN (parC (s := .dat (.list [])) (s' := .lst []) (vDC (fzC (dispC aN rfl))) (vLC (dispC aN rfl)) (ρ3 := lE b (.list (rs.map encR)) (.list (hows.map hwD)) size mk (.list ([].map tupK)) (.lst ([].map encR)) .un .un .un .un .un .un .un) rfl) (seqN (forC (ds := rs.map encR) rfl st1') (seqN (forC (ds := (dist (κB b) rs).map tupK) rfl st2') (retC (fzC so)))))
theorem sps_once {hows : List Str} (H : HowsOk hows) : SpsOk hows (spsOnce hows) := by
  rcases H with ⟨h, rfl, i⟩ | ⟨h, g, rfl, i, j⟩
  · refine ⟨fun x hx => by rw [List.mem_singleton.mp hx]; exact i, by simp, fun rs => ?_⟩
    have t : ∀ (n h : Str), tot (sp1 n h) (lift rs) = totH h rs := fun n h => by
      unfold tot totH lift
      rw [List.map_map, List.map_map]
      rfl
    show [PyData.int (tot (sp1 "a" h) (lift rs))] = [.int (totH h rs)]
    rw [t]
  · refine ⟨fun x hx => ?_, by simp, fun rs => ?_⟩
    · rcases List.mem_cons.mp hx with rfl | hx
      · exact i
      · rw [List.mem_singleton.mp hx]
        exact j
    · have t : ∀ (n h : Str), tot (sp1 n h) (lift rs) = totH h rs := fun n h => by
        unfold tot totH lift
        rw [List.map_map, List.map_map]
        rfl
      show [PyData.int (tot (sp1 "a" h) (lift rs)), .int (tot (sp1 "b" g) (lift rs))] = [.int (totH h rs), .int (totH g rs)]
      rw [t, t]
end Dl
end
section
set_option Elab.async false
set_option linter.all false
set_option autoImplicit false
set_option maxRecDepth 100000
set_option maxHeartbeats 1000000
/-! R1: the queries' steps and columns; of_step. -/
namespace Dl
open PySem
abbrev onceQ (hows : List Str) (b : Bool) (size : Int) : PyData := qryD (onceSt hows b size)
abbrev twiceQ (hows : List Str) (b : Bool) (size : Int) : PyData := qryD (twiceSt hows b size)
def namesH : List Str → List (Str × Str)
  | [h] => [("a", "number")]
  | [h, g] => [("a", "number"), ("b", "number")]
  | _ => []
def colsF (b : Bool) (hows : List Str) : List (Str × Str) := (if b then ([("who", "text")] : List (Str × Str)) else []) ++ (([("from", "number"), ("to", "number")] : List (Str × Str)) ++ namesH hows)
section
variable {hows : List Str} {b : Bool} {size : Int}
theorem o_step_x : m_step_of [onceQ hows b size, .str "x"] = some srcD := by kernel_rfl
theorem o_step_y : m_step_of [onceQ hows b size, .str "y"] = some srcD := by kernel_rfl
theorem o_step_z : m_step_of [onceQ hows b size, .str "z"] = some (bothD "x" "y") := by kernel_rfl
theorem o_step_s : m_step_of [onceQ hows b size, .str "s"] = some (sumSt "z" b size (spsOnce hows)) := by kernel_rfl
theorem o_ah_x : m_steps_ahead [onceQ hows b size, .str "x"] = some (.tuple (([] : List Str).map .str)) := by kernel_rfl
theorem o_ah_y : m_steps_ahead [onceQ hows b size, .str "y"] = some (.tuple (([] : List Str).map .str)) := by kernel_rfl
theorem o_ah_z : m_steps_ahead [onceQ hows b size, .str "z"] = some (.tuple ((["x", "y"] : List Str).map .str)) := by kernel_rfl
theorem o_ah_s : m_steps_ahead [onceQ hows b size, .str "s"] = some (.tuple ((["z"] : List Str).map .str)) := by kernel_rfl
theorem o_out : m_out_of [onceQ hows b size] = some (.str "s") := by kernel_rfl
theorem t_step_x : m_step_of [twiceQ hows b size, .str "x"] = some srcD := by kernel_rfl
theorem t_step_y : m_step_of [twiceQ hows b size, .str "y"] = some srcD := by kernel_rfl
theorem t_step_f : m_step_of [twiceQ hows b size, .str "f"] = some (sumSt "x" b size (spsOnce hows)) := by kernel_rfl
theorem t_step_g : m_step_of [twiceQ hows b size, .str "g"] = some (sumSt "y" b size (spsOnce hows)) := by kernel_rfl
theorem t_step_z : m_step_of [twiceQ hows b size, .str "z"] = some (bothD "f" "g") := by kernel_rfl
theorem t_step_s : m_step_of [twiceQ hows b size, .str "s"] = some (sumSt "z" b size (spsLate (klB b) hows)) := by kernel_rfl
theorem t_ah_x : m_steps_ahead [twiceQ hows b size, .str "x"] = some (.tuple (([] : List Str).map .str)) := by kernel_rfl
theorem t_ah_y : m_steps_ahead [twiceQ hows b size, .str "y"] = some (.tuple (([] : List Str).map .str)) := by kernel_rfl
theorem t_ah_f : m_steps_ahead [twiceQ hows b size, .str "f"] = some (.tuple ((["x"] : List Str).map .str)) := by kernel_rfl
theorem t_ah_g : m_steps_ahead [twiceQ hows b size, .str "g"] = some (.tuple ((["y"] : List Str).map .str)) := by kernel_rfl
theorem t_ah_z : m_steps_ahead [twiceQ hows b size, .str "z"] = some (.tuple ((["f", "g"] : List Str).map .str)) := by kernel_rfl
theorem t_ah_s : m_steps_ahead [twiceQ hows b size, .str "s"] = some (.tuple ((["z"] : List Str).map .str)) := by kernel_rfl
theorem t_out : m_out_of [twiceQ hows b size] = some (.str "s") := by kernel_rfl
theorem o_cols (H : HowsOk hows) : ∀ n ∈ (["x", "y", "z"] : List Str), m_columns_of [onceQ hows b size, .str n] = some (colsD cols0) := by
  intro n hn
  simp only [List.mem_cons, List.not_mem_nil, or_false] at hn
  rcases H with ⟨h, rfl, i⟩ | ⟨h, g, rfl, i, j⟩
  · rcases hn with rfl | rfl | rfl <;> rcases i with rfl | rfl <;> cases b <;> kernel_rfl
  · rcases hn with rfl | rfl | rfl <;> rcases i with rfl | rfl <;> rcases j with rfl | rfl <;> cases b <;> kernel_rfl
theorem t_cols (H : HowsOk hows) : ∀ n ∈ (["x", "y"] : List Str), m_columns_of [twiceQ hows b size, .str n] = some (colsD cols0) := by
  intro n hn
  simp only [List.mem_cons, List.not_mem_nil, or_false] at hn
  rcases H with ⟨h, rfl, i⟩ | ⟨h, g, rfl, i, j⟩
  · rcases hn with rfl | rfl <;> rcases i with rfl | rfl <;> cases b <;> kernel_rfl
  · rcases hn with rfl | rfl <;> rcases i with rfl | rfl <;> rcases j with rfl | rfl <;> cases b <;> kernel_rfl
theorem t_colsF (H : HowsOk hows) : ∀ n ∈ (["f", "g", "z"] : List Str), m_columns_of [twiceQ hows b size, .str n] = some (colsD (colsF b hows)) := by
  intro n hn
  simp only [List.mem_cons, List.not_mem_nil, or_false] at hn
  rcases H with ⟨h, rfl, i⟩ | ⟨h, g, rfl, i, j⟩
  · rcases hn with rfl | rfl | rfl <;> rcases i with rfl | rfl <;> cases b <;> kernel_rfl
  · rcases hn with rfl | rfl | rfl <;> rcases i with rfl | rfl <;> rcases j with rfl | rfl <;> cases b <;> kernel_rfl
theorem worth0 {w n : PyData} : m_worth [colsD cols0, colE "n", .tuple [w, n]] = some n := by kernel_rfl
theorem worthF1 {h : Str} {κ : List PyData} {i j x : PyData} (hk : κ.length = klB b) : m_worth [colsD (colsF b [h]), colE "a", .tuple (κ ++ ([i, j] ++ [x]))] = some x ∧ (κ ++ ([i, j] ++ [x])).getD (klB b + 2) .none = x := by
  cases b with
  | false =>
    cases List.eq_nil_of_length_eq_zero hk
    exact ⟨by kernel_rfl, by kernel_rfl⟩
  | true =>
    match κ, hk with
    | [w], _ => exact ⟨by kernel_rfl, by kernel_rfl⟩
theorem worthF2 {h g : Str} {κ : List PyData} {i j x y : PyData} (hk : κ.length = klB b) : (m_worth [colsD (colsF b [h, g]), colE "a", .tuple (κ ++ ([i, j] ++ [x, y]))] = some x ∧ (κ ++ ([i, j] ++ [x, y])).getD (klB b + 2) .none = x) ∧ (m_worth [colsD (colsF b [h, g]), colE "b", .tuple (κ ++ ([i, j] ++ [x, y]))] = some y ∧ (κ ++ ([i, j] ++ [x, y])).getD (klB b + 3) .none = y) := by
  cases b with
  | false =>
    cases List.eq_nil_of_length_eq_zero hk
    exact ⟨⟨by kernel_rfl, by kernel_rfl⟩, by kernel_rfl, by kernel_rfl⟩
  | true =>
    match κ, hk with
    | [w], _ => exact ⟨⟨by kernel_rfl, by kernel_rfl⟩, by kernel_rfl, by kernel_rfl⟩
end
/-! ### of_step -/
def oS (Q told mk bef : PyData) (nm : Str) (st some6 cols7 : PyData) : DEnv := ⟨[.dat Q, .dat (.str nm), .dat told, .dat mk, .dat bef, .dat st, .dat some6, .dat cols7, .un, .un, .un, .un, .un, .un, .un, .un, .un, .un, .un], none⟩
def restG : G := sSeq (sIf (tB (e2 opEq (e2 ixD (eVar 5) (eC (.int 0))) (eC (.str "source")))) (sRet (eCall m_of_source (aCons (eVar 1) (aCons (e2 ixD (eVar 2) (eVar 1)) (aNil))))) (sNext))
    (sSeq (sIf (tB (e2 opEq (e2 ixD (eVar 5) (eC (.int 0))) (eC (.str "keep")))) (eNo) (sNext))
    (sSeq (sIf (tB (e2 opEq (e2 ixD (eVar 5) (eC (.int 0))) (eC (.str "make")))) (eNo) (sNext))
    (sSeq (sIf (tB (e2 opEq (e2 ixD (eVar 5) (eC (.int 0))) (eC (.str "both")))) (sRet (eFz (lAdd (e2 ixD (eVar 4) (e2 ixD (eVar 5) (eC (.int 1)))) (e2 ixD (eVar 4) (e2 ixD (eVar 5) (eC (.int 2))))))) (sNext))
    (sSeq (sIf (tB (e2 opEq (e2 ixD (eVar 5) (eC (.int 0))) (eC (.str "sum")))) (sRet (eCall m_sums_of (aCons (e2 ixD (eVar 7) (eC (.int 0))) (aCons (eVar 5) (aCons (eVar 3) (aCons (e2 ixD (eVar 6) (eC (.int 0))) (aNil))))))) (sNext))
    (eNo)))))
variable {Q told mk bef st : PyData} {nm : Str} {ahs : List Str} {g1 g2 : Str → PyData} {d : PyData} {ρ1 : DEnv}
theorem of_step_go (hst : m_step_of [Q, .str nm] = some st) (hah : m_steps_ahead [Q, .str nm] = some (.tuple (ahs.map .str))) (h1 : ∀ a ∈ ahs, ixD bef (.str a) = some (g1 a)) (h2 : ∀ a ∈ ahs, m_columns_of [Q, .str a] = some (g2 a)) (hl : ahs.length ≤ 10) (hr : restG (oS Q told mk bef nm st (.list (ahs.map g1)) (.list (ahs.map g2))) = some (.ret d, ρ1)) : m_of_step [Q, .str nm, told, mk, bef] = some d := by
  let E0 : Sl → Sl → Sl → DEnv := fun a b c => ⟨[.dat Q, .dat (.str nm), .dat told, .dat mk, .dat bef, a, b, c, .un, .un, .un, .un, .un, .un, .un, .un, .un, .un, .un], none⟩
  have ah : ∀ a b c : Sl, iDat (eCall m_steps_ahead (aCons (eVar 0) (aCons (eVar 1) (aNil)))) (E0 a b c) = some (ahs.map .str, E0 a b c) := fun a b c => datC (callC (aC (x := Q) rfl (aC (x := .str nm) rfl aN)) hah) rfl
  have c1 : lComp (iDat (eCall m_steps_ahead (aCons (eVar 0) (aCons (eVar 1) (aNil))))) [15] aName [15] tYes (e2 ixD (eVar 4) (eVar 15)) (E0 (.dat st) .un .un) = some (ahs.map g1, E0 (.dat st) .un .un) :=
    comp_all (e := PyData.str) g1 (ah _ _ _) (small_of (by omega)) fun a ha => ⟨[.str a], rfl, e2C (x := bef) (y := .str a) rfl rfl (h1 a ha)⟩
  have c2 : lComp (iDat (eCall m_steps_ahead (aCons (eVar 0) (aCons (eVar 1) (aNil))))) [15] aName [15] tYes (eCall m_columns_of (aCons (eVar 0) (aCons (eVar 15) aNil))) (E0 (.dat st) (.dat (.list (ahs.map g1))) .un) = some (ahs.map g2, E0 (.dat st) (.dat (.list (ahs.map g1))) .un) :=
    comp_all (e := PyData.str) g2 (ah _ _ _) (small_of (by omega)) fun a ha => ⟨[.str a], rfl, callC (aC (x := Q) rfl (aC (x := .str a) rfl aN)) (h2 a ha)⟩
  exact runC (seqN (setVC (vDC (callC (aC (x := Q) rfl (aC (x := .str nm) rfl aN)) hst)) (ρ2 := E0 (.dat st) .un .un)) (seqN (setVC (vDC (fzC c1)) (ρ2 := E0 (.dat st) (.dat (.list (ahs.map g1))) .un)) (seqN (setVC (vDC (fzC c2))) hr)))
theorem head0 {x : PyData} {r : List PyData} : ixD (.tuple (x :: r)) (.int 0) = some x := by
  show L2.atI (x :: r) 0 = _
  unfold L2.atI
  rw [show L2.ixN (x :: r).length 0 = some 0 by unfold L2.ixN; simp]
  rfl
theorem is_word {x y : Str} {r : List PyData} {some6 cols7 : PyData} (z : Bool) (hz : opEq (.str x) (.str y) = some (.bool z)) : tB (e2 opEq (e2 ixD (eVar 5) (eC (.int 0))) (eC (.str y))) (oS Q told mk bef nm (.tuple (.str x :: r)) some6 cols7) = some (z, oS Q told mk bef nm (.tuple (.str x :: r)) some6 cols7) := tbC (e2C (x := .str x) (y := .str y) (e2C (x := .tuple (.str x :: r)) (y := .int 0) rfl rfl head0) rfl hz)
theorem of_step_source {c parts : PyData} (hst : m_step_of [Q, .str nm] = some (.tuple [.str "source", c])) (hah : m_steps_ahead [Q, .str nm] = some (.tuple (([] : List Str).map .str))) (ht : ixD told (.str nm) = some parts) (hs : m_of_source [.str nm, parts] = some d) : m_of_step [Q, .str nm, told, mk, bef] = some d :=
  of_step_go (g1 := fun _ => .none) (g2 := fun _ => .none) hst hah (fun _ h => nomatch h) (fun _ h => nomatch h) (by simp) (seqR (ifT (is_word true opEq_tt) (retC (callC (aC (x := .str nm) rfl (aC (e2C (x := told) (y := .str nm) rfl rfl ht) aN)) hs))))
theorem of_step_both {l r : Str} {xs ys : List PyData} {cl : Str → PyData} (hst : m_step_of [Q, .str nm] = some (bothD l r)) (hah : m_steps_ahead [Q, .str nm] = some (.tuple (([l, r] : List Str).map .str))) (hc : ∀ a ∈ [l, r], m_columns_of [Q, .str a] = some (cl a)) (b1 : ixD bef (.str l) = some (.list xs)) (b2 : ixD bef (.str r) = some (.list ys)) (hs : xs.length + ys.length ≤ 1000) : m_of_step [Q, .str nm, told, mk, bef] = some (.list (xs ++ ys)) := by
  refine of_step_go (g1 := fun a => (ixD bef (.str a)).getD .none) (g2 := cl) hst hah (fun a ha => ?_) hc (by simp) ?_ (ρ1 := oS Q told mk bef nm (bothD l r) (.list (([l, r] : List Str).map fun a => (ixD bef (.str a)).getD .none)) (.list (([l, r] : List Str).map cl)))
  · simp only [List.mem_cons, List.not_mem_nil, or_false] at ha
    rcases ha with rfl | rfl
    · rw [b1]
      rfl
    · rw [b2]
      rfl
  · exact seqN (ifF (is_word false (opEq_ne (by decide +kernel))) rfl) (seqN (ifF (is_word false (opEq_ne (by decide +kernel))) rfl) (seqN (ifF (is_word false (opEq_ne (by decide +kernel))) rfl) (seqR (ifT (is_word true opEq_tt) (retC (fzC (addC (e2C (x := bef) (y := .str l) rfl (e2C (x := bothD l r) (y := .int 1) rfl rfl rfl) b1) (e2C (x := bef) (y := .str r) rfl (e2C (x := bothD l r) (y := .int 2) rfl rfl rfl) b2) (small_of (by omega)))))))))
theorem of_step_sum {src : Str} {r : List PyData} {cols rows : PyData} (hst : m_step_of [Q, .str nm] = some (.tuple (.str "sum" :: r))) (hah : m_steps_ahead [Q, .str nm] = some (.tuple (([src] : List Str).map .str))) (hc : m_columns_of [Q, .str src] = some cols) (b1 : ixD bef (.str src) = some rows) (hs : m_sums_of [cols, .tuple (.str "sum" :: r), mk, rows] = some d) : m_of_step [Q, .str nm, told, mk, bef] = some d := by
  refine of_step_go (g1 := fun a => (ixD bef (.str a)).getD .none) (g2 := fun _ => cols) hst hah (fun a ha => ?_) (fun a ha => ?_) (by simp) ?_ (ρ1 := oS Q told mk bef nm (.tuple (.str "sum" :: r)) (.list (([src] : List Str).map fun a => (ixD bef (.str a)).getD .none)) (.list (([src] : List Str).map fun _ => cols)))
  · rw [List.mem_singleton.mp ha, b1]
    rfl
  · rw [List.mem_singleton.mp ha, hc]
  · have e6 : ((ixD bef (.str src)).getD .none) = rows := by rw [b1]; rfl
    refine seqN (ifF (is_word false (opEq_ne (by decide +kernel))) rfl) (seqN (ifF (is_word false (opEq_ne (by decide +kernel))) rfl) (seqN (ifF (is_word false (opEq_ne (by decide +kernel))) rfl) (seqN (ifF (is_word false (opEq_ne (by decide +kernel))) rfl) (seqR (ifT (is_word true opEq_tt) (retC (callC (aC (x := cols) (e2C (x := .list [cols]) (y := .int 0) rfl rfl rfl) (aC (x := .tuple (.str "sum" :: r)) rfl (aC (x := mk) rfl (aC (x := rows) (e2C (x := .list [(ixD bef (.str src)).getD .none]) (y := .int 0) rfl rfl (by rw [e6]; rfl)) aN)))) hs)))))))
end Dl
end
section
set_option Elab.async false
set_option linter.all false
set_option autoImplicit false
set_option maxRecDepth 100000
set_option maxHeartbeats 1000000
/-! R2: marks_of. -/
namespace Dl
open PySem
theorem putKC {i : Nat} {k v : M PyData} {ρ ρ1 ρ2 : DEnv} {q : PyData} {x : Str} {kvs kvs' : List (Str × PyData)} (h1 : v ρ = some (q, ρ1)) (hk : isK ρ1 i = true) (h2 : k ρ1 = some (.str x, ρ2)) (h3 : ρ2.sl[i]? = some (.dK kvs)) (hs : small kvs.length = true) (hp : putS kvs x q = kvs') : sPutK i k v ρ = some (.next, ρ2.put i (.dK kvs')) := by
  unfold sPutK
  rw [h1]
  show (if isK ρ1 i = false then none else _) = _
  rw [hk]
  show (k ρ1).bind _ = _
  rw [h2]
  show (ρ2.sl[i]?).bind _ = _
  rw [h3]
  show (if small kvs.length = true then _ else _) = _
  rw [hs, if_pos rfl, hp]
def mkE (Q told : PyData) (kvs : List (Str × PyData)) (s3 s4 : Sl) : DEnv := ⟨[.dat Q, .dat told, .dK kvs, s3, s4, .un, .un], none⟩
def stepG : G := sIf (tB (e2 opEq (e2 ixD (eVar 4) (eC (.int 0))) (eC (.str "source")))) (sPutK 2 (eVar 3) (e2 minDf (eFz (lComp (iDat (e2 ixD (eVar 1) (eVar 3))) [5] (aName) [5] (tYes) (eCall m_mark_of (aCons (eVar 5) (aNil))))) (eC (.int 1000000000)))) (sPutK 2 (eVar 3) (e1 minD (eFz (lComp (iDat (eCall m_steps_ahead (aCons (eVar 0) (aCons (eVar 3) (aNil))))) [6] (aName) [6] (tYes) (eIxO 2 (eVar 6))))))
variable {Q told : PyData} {kvs kvs' : List (Str × PyData)} {nm : Str}
theorem mk_word {x y : Str} {r : List PyData} (z : Bool) (hz : opEq (.str x) (.str y) = some (.bool z)) : tB (e2 opEq (e2 ixD (eVar 4) (eC (.int 0))) (eC (.str y))) (mkE Q told kvs (.dat (.str nm)) (.dat (.tuple (.str x :: r)))) = some (z, mkE Q told kvs (.dat (.str nm)) (.dat (.tuple (.str x :: r)))) := tbC (e2C (x := .str x) (y := .str y) (e2C (x := .tuple (.str x :: r)) (y := .int 0) rfl rfl head0) rfl hz)
/-- fit parts -/
structure PartsOk (parts : List (List EntT)) : Prop where
  few : parts.length ≤ 10
  short : ∀ es ∈ parts, es.length ≤ 1000
  pos : ∀ es ∈ parts, ∀ m ∈ marksIn es, 0 ≤ m
theorem mk_src {parts : List (List EntT)} (ht : ixD told (.str nm) = some (partsD parts)) (P : PartsOk parts) (hk : kvs.length ≤ 100) (hp : putS kvs nm (.int (markL parts)) = kvs') : stepG (mkE Q told kvs (.dat (.str nm)) (.dat srcD)) = some (.next, mkE Q told kvs' (.dat (.str nm)) (.dat srcD)) := by
  have few := P.few
  have cm : lComp (iDat (e2 ixD (eVar 1) (eVar 3))) [5] (aName) [5] (tYes) (eCall m_mark_of (aCons (eVar 5) (aNil))) (mkE Q told kvs (.dat (.str nm)) (.dat srcD)) = some (parts.map fun es => .int (markP es), mkE Q told kvs (.dat (.str nm)) (.dat srcD)) :=
    comp_all (e := fun es : List EntT => .tuple (es.map encE)) (fun es => .int (markP es)) (datC (e2C (x := told) (y := .str nm) rfl rfl ht) rfl) (small_of (by omega)) fun es he => ⟨[.tuple (es.map encE)], rfl, callC (aC (x := .tuple (es.map encE)) rfl aN) (m_mark_eq (P.short es he) (P.pos es he))⟩
  refine ifT (mk_word true opEq_tt) (putKC (q := .int (markL parts)) (ρ1 := mkE Q told kvs (.dat (.str nm)) (.dat srcD)) (ρ2 := mkE Q told kvs (.dat (.str nm)) (.dat srcD)) (e2C (fzC cm) rfl ?_) rfl rfl rfl (small_of (by omega)) hp)
  show (intsD (parts.map fun es => .int (markP es))).bind _ = _
  rw [ints_map]
  cases parts with
  | nil => rfl
  | cons es ps => rfl
theorem mk_oth {w : Str} {r : List PyData} {a : Str} {as : List Str} {mv : Str → Int} (hw : w ≠ "source") (hah : m_steps_ahead [Q, .str nm] = some (.tuple ((a :: as).map .str))) (hl : as.length ≤ 10) (h1 : ∀ x ∈ a :: as, ixD (kvD kvs) (.str x) = some (.int (mv x))) (hk : kvs.length ≤ 100) (hp : putS kvs nm (.int (minI (mv a) (as.map mv))) = kvs') : stepG (mkE Q told kvs (.dat (.str nm)) (.dat (.tuple (.str w :: r)))) = some (.next, mkE Q told kvs' (.dat (.str nm)) (.dat (.tuple (.str w :: r)))) := by
  have cm : lComp (iDat (eCall m_steps_ahead (aCons (eVar 0) (aCons (eVar 3) (aNil))))) [6] (aName) [6] (tYes) (eIxO 2 (eVar 6)) (mkE Q told kvs (.dat (.str nm)) (.dat (.tuple (.str w :: r)))) = some ((a :: as).map fun x => .int (mv x), mkE Q told kvs (.dat (.str nm)) (.dat (.tuple (.str w :: r)))) := by
    refine comp_all (e := PyData.str) (fun x => .int (mv x)) (datC (callC (aC (x := Q) rfl (aC (x := .str nm) rfl aN)) hah) rfl) (small_of (by rw [List.length_cons]; omega)) fun x hx => ⟨[.str x], rfl, ?_⟩
    show (ixD (kvD kvs) (.str x)).bind _ = _
    rw [h1 x hx]
    rfl
  refine ifF (mk_word false (opEq_ne hw)) (putKC (q := .int (minI (mv a) (as.map mv))) (ρ1 := mkE Q told kvs (.dat (.str nm)) (.dat (.tuple (.str w :: r)))) (ρ2 := mkE Q told kvs (.dat (.str nm)) (.dat (.tuple (.str w :: r)))) (e1C (fzC cm) ?_) rfl rfl rfl (small_of (by omega)) hp)
  show (intsD ((a :: as).map fun x => .int (mv x))).bind _ = _
  rw [ints_map]
  rfl
/-! ### both queries -/
def toldD (px py : List (List EntT)) : PyData := kvD [("x", partsD px), ("y", partsD py)]
def mkMin (px py : List (List EntT)) : Int := minI (markL px) [markL py]
def onceM (px py : List (List EntT)) : List (Str × PyData) := [("x", .int (markL px)), ("y", .int (markL py)), ("z", .int (mkMin px py)), ("s", .int (mkMin px py))]
def twiceM (px py : List (List EntT)) : List (Str × PyData) := [("x", .int (markL px)), ("y", .int (markL py)), ("f", .int (markL px)), ("g", .int (markL py)), ("z", .int (mkMin px py)), ("s", .int (mkMin px py))]
theorem told_x {px py : List (List EntT)} : ixD (toldD px py) (.str "x") = some (partsD px) := by kernel_rfl
theorem told_y {px py : List (List EntT)} : ixD (toldD px py) (.str "y") = some (partsD py) := by kernel_rfl
def pairsL (ps : List (Str × PyData)) : List PyData := ps.map fun p => pairD p.1 p.2
theorem o_cut {hows : List Str} {b : Bool} {size : Int} : slT none (some (-1)) (onceQ hows b size) = some (.tuple (pairsL (onceSt hows b size))) := by kernel_rfl
theorem t_cut {hows : List Str} {b : Bool} {size : Int} : slT none (some (-1)) (twiceQ hows b size) = some (.tuple (pairsL (twiceSt hows b size))) := by kernel_rfl
theorem marks_end {ps : List (Str × PyData)} {s3 s4 : Sl} (hc : slT none (some (-1)) Q = some (.tuple (pairsL ps))) (h : forGo [3, 4] (aTup [aName, aName]) stepG (pairsL ps) (mkE Q told [] .un .un) = some (.next, mkE Q told kvs s3 s4)) : m_marks_of [Q, told] = some (kvD kvs) :=
  runC (seqN (setVC (s := .dK []) rfl (ρ2 := mkE Q told [] .un .un)) (seqN (forC (datC (e1C (x := Q) rfl hc) rfl) h) (retC (a := eVar 2) (d := kvD kvs) rfl)))
theorem marks_cons {st : PyData} {ps : List PyData} {s3 s4 : Sl} {p : Fl × DEnv} (h1 : stepG (mkE Q told kvs (.dat (.str nm)) (.dat st)) = some (.next, mkE Q told kvs' (.dat (.str nm)) (.dat st))) (h2 : forGo [3, 4] (aTup [aName, aName]) stepG ps (mkE Q told kvs' (.dat (.str nm)) (.dat st)) = some p) : forGo [3, 4] (aTup [aName, aName]) stepG (pairD nm st :: ps) (mkE Q told kvs s3 s4) = some p :=
  forCons (xs := [.str nm, st]) rfl h1 h2
theorem o_marks {hows : List Str} {b : Bool} {size : Int} {px py : List (List EntT)} (hx : PartsOk px) (hy : PartsOk py) : m_marks_of [onceQ hows b size, toldD px py] = some (kvD (onceM px py)) := by
  refine marks_end (ps := onceSt hows b size) o_cut ?_ (s3 := .dat (.str "s")) (s4 := .dat (sumSt "z" b size (spsOnce hows)))
  refine marks_cons (mk_src told_x hx (by simp) (kvs' := [("x", .int (markL px))]) (by kernel_rfl)) ?_
  refine marks_cons (mk_src told_y hy (by simp) (kvs' := [("x", .int (markL px)), ("y", .int (markL py))]) (by kernel_rfl)) ?_
  refine marks_cons (mk_oth (mv := fun x => if x = "x" then markL px else markL py) (by decide +kernel) o_ah_z (by decide) (fun x h => ?_) (by simp) (kvs' := [("x", .int (markL px)), ("y", .int (markL py)), ("z", .int (mkMin px py))]) (by kernel_rfl)) ?_
  · simp only [List.mem_cons, List.not_mem_nil, or_false] at h
    rcases h with rfl | rfl <;> kernel_rfl
  refine marks_cons (mk_oth (mv := fun x => mkMin px py) (by decide +kernel) o_ah_s (by decide) (fun x h => ?_) (by simp) (kvs' := onceM px py) (by kernel_rfl)) rfl
  · simp only [List.mem_cons, List.not_mem_nil, or_false] at h
    rcases h with rfl <;> kernel_rfl
theorem t_marks {hows : List Str} {b : Bool} {size : Int} {px py : List (List EntT)} (hx : PartsOk px) (hy : PartsOk py) : m_marks_of [twiceQ hows b size, toldD px py] = some (kvD (twiceM px py)) := by
  refine marks_end (ps := twiceSt hows b size) t_cut ?_ (s3 := .dat (.str "s")) (s4 := .dat (sumSt "z" b size (spsLate (klB b) hows)))
  refine marks_cons (mk_src told_x hx (by simp) (kvs' := [("x", .int (markL px))]) (by kernel_rfl)) ?_
  refine marks_cons (mk_src told_y hy (by simp) (kvs' := [("x", .int (markL px)), ("y", .int (markL py))]) (by kernel_rfl)) ?_
  refine marks_cons (mk_oth (mv := fun x => markL px) (by decide +kernel) t_ah_f (by decide) (fun x h => ?_) (by simp) (kvs' := [("x", .int (markL px)), ("y", .int (markL py)), ("f", .int (markL px))]) (by kernel_rfl)) ?_
  · simp only [List.mem_cons, List.not_mem_nil, or_false] at h
    rcases h with rfl <;> kernel_rfl
  refine marks_cons (mk_oth (mv := fun x => markL py) (by decide +kernel) t_ah_g (by decide) (fun x h => ?_) (by simp) (kvs' := [("x", .int (markL px)), ("y", .int (markL py)), ("f", .int (markL px)), ("g", .int (markL py))]) (by kernel_rfl)) ?_
  · simp only [List.mem_cons, List.not_mem_nil, or_false] at h
    rcases h with rfl <;> kernel_rfl
  refine marks_cons (mk_oth (mv := fun x => if x = "f" then markL px else markL py) (by decide +kernel) t_ah_z (by decide) (fun x h => ?_) (by simp) (kvs' := [("x", .int (markL px)), ("y", .int (markL py)), ("f", .int (markL px)), ("g", .int (markL py)), ("z", .int (mkMin px py))]) (by kernel_rfl)) ?_
  · simp only [List.mem_cons, List.not_mem_nil, or_false] at h
    rcases h with rfl | rfl <;> kernel_rfl
  refine marks_cons (mk_oth (mv := fun x => mkMin px py) (by decide +kernel) t_ah_s (by decide) (fun x h => ?_) (by simp) (kvs' := twiceM px py) (by kernel_rfl)) rfl
  · simp only [List.mem_cons, List.not_mem_nil, or_false] at h
    rcases h with rfl <;> kernel_rfl
end Dl
end
section
set_option Elab.async false
set_option linter.all false
set_option autoImplicit false
set_option maxRecDepth 100000
set_option maxHeartbeats 1000000
/-! R3: rows_with_lots: turns, the end; meaning. -/
namespace Dl
open PySem
def wE (Q told marks : PyData) (kvs : List (Str × PyData)) (s4 s5 : Sl) : DEnv := ⟨[.dat Q, .dat told, .dat marks, .dK kvs, s4, s5], none⟩
def lendG : G := sPutK 3 (eVar 4) (eLend 3 (eCall m_of_step (aCons (eVar 0) (aCons (eVar 4) (aCons (eVar 1) (aCons (e2 ixD (eVar 2) (eVar 4)) (aCons (eVar 3) (aNil))))))))
variable {Q told marks st mk d : PyData} {kvs kvs' : List (Str × PyData)} {nm : Str}
theorem rw_turn (hm : ixD marks (.str nm) = some mk) (ho : m_of_step [Q, .str nm, told, mk, kvD kvs] = some d) (hn : noDict d = true) (hl : kvs.length ≤ 100) (hp : putS kvs nm d = kvs') : lendG (wE Q told marks kvs (.dat (.str nm)) (.dat st)) = some (.next, wE Q told marks kvs' (.dat (.str nm)) (.dat st)) := by
  refine putKC (q := d) (ρ1 := wE Q told marks kvs (.dat (.str nm)) (.dat st)) (ρ2 := wE Q told marks kvs (.dat (.str nm)) (.dat st)) ?_ rfl rfl rfl (small_of (by omega)) hp
  have c : eCall m_of_step (aCons (eVar 0) (aCons (eVar 4) (aCons (eVar 1) (aCons (e2 ixD (eVar 2) (eVar 4)) (aCons (eVar 3) (aNil)))))) ⟨[.dat Q, .dat told, .dat marks, .dat (kvD kvs), .dat (.str nm), .dat st], none⟩ = some (d, ⟨[.dat Q, .dat told, .dat marks, .dat (kvD kvs), .dat (.str nm), .dat st], none⟩) :=
    callC (aC (x := Q) rfl (aC (x := .str nm) rfl (aC (x := told) rfl (aC (e2C (x := marks) (y := .str nm) rfl rfl hm) (aC (x := kvD kvs) rfl aN))))) ho
  unfold eLend
  show (eCall m_of_step (aCons (eVar 0) (aCons (eVar 4) (aCons (eVar 1) (aCons (e2 ixD (eVar 2) (eVar 4)) (aCons (eVar 3) (aNil)))))) ⟨[.dat Q, .dat told, .dat marks, .dat (kvD kvs), .dat (.str nm), .dat st], none⟩).bind _ = _
  rw [c]
  show (if (noDict d && alone (wE Q told marks kvs (.dat (.str nm)) (.dat st)) 3) = true then some (d, wE Q told marks kvs (.dat (.str nm)) (.dat st)) else none) = _
  have al : alone (wE Q told marks kvs (.dat (.str nm)) (.dat st)) 3 = true := rfl
  rw [hn, al]
  rfl
theorem rw_cons {ps : List PyData} {s4 s5 : Sl} {p : Fl × DEnv} (hm : ixD marks (.str nm) = some mk) (ho : m_of_step [Q, .str nm, told, mk, kvD kvs] = some d) (hn : noDict d = true) (hl : kvs.length ≤ 100) (hp : putS kvs nm d = kvs') (h2 : forGo [4, 5] (aTup [aName, aName]) lendG ps (wE Q told marks kvs' (.dat (.str nm)) (.dat st)) = some p) : forGo [4, 5] (aTup [aName, aName]) lendG (pairD nm st :: ps) (wE Q told marks kvs s4 s5) = some p :=
  forCons (xs := [.str nm, st]) rfl (rw_turn hm ho hn hl hp) h2
/-! ### the order -/
def lotK (q : Rw × PyData) : PyData := .tuple [place q.1, q.2]
theorem kd_rank (d : PyData) : KD 1 (rankD d) := by
  cases d
  case int i => exact KD.tup (KD.one (.int _) (KD.one (.int _) KD.nil))
  case str x => exact KD.tup (KD.one (.int _) (KD.one (.str _) KD.nil))
  all_goals exact KD.tup (KD.one (.int _) KD.nil)
theorem kd_place (r : Rw) : KD 3 (place r) := by
  refine KD.tup (KD.one ((KD.int _).mono (by omega)) (KD.one ((KD.int _).mono (by omega)) (KD.one (KD.tup fun d hd => ?_) KD.nil)))
  obtain ⟨v, _, rfl⟩ := List.mem_map.mp hd
  exact kd_rank v
theorem kd_lot {d : PyData} (h : IsLot d) : KD 3 d := by
  obtain ⟨es, rfl, he⟩ := h
  refine KD.tup fun e hm => ?_
  obtain ⟨x, i, j, rfl⟩ := he e hm
  exact (KD.tup (KD.one (.str _) (KD.one (.int _) (KD.one (.int _) KD.nil)))).mono (by omega)
theorem kd_lotK {q : Rw × PyData} (h : IsLot q.2) : KD 60 (lotK q) := (KD.tup (n := 3) (KD.one (kd_place _) (KD.one (kd_lot h) KD.nil))).mono (by omega)
theorem alike_app : ∀ (a c b d : List PyData), a.length = c.length → PySem.W.alikeAll a c = true → PySem.W.alikeAll b d = true → PySem.W.alikeAll (a ++ b) (c ++ d) = true
  | [], [], b, d, _, _, h => h
  | [], _ :: _, b, d, hl, _, _ => by cases hl
  | _ :: _, [], b, d, hl, _, _ => by cases hl
  | x :: a, y :: c, b, d, hl, h1, h2 => by
    obtain ⟨g1, g2⟩ := PySem.W.alike_all_cons h1
    rw [List.cons_append, List.cons_append, PySem.W.alikeAll, g1, alike_app a c b d (by simpa using hl) g2 h2]
    rfl
theorem alike_keys {b : Bool} {r q : Rw} : PySem.W.alikeAll ((NestedKey.datas (κB b r)).map rankD) ((NestedKey.datas (κB b q)).map rankD) = true := by
  cases b with
  | false => rfl
  | true =>
    show PySem.W.alikeAll [rankD (kvOf (r.vs.getD 0 .none)).data] [rankD (kvOf (q.vs.getD 0 .none)).data] = true
    cases r.vs.getD 0 .none <;> cases q.vs.getD 0 .none <;> rfl
theorem alike_out {b : Bool} {size : Int} {sps : List Sp3} {r q : Rw} (hr : IsOut b size sps r) (hq : IsOut b size sps q) : PySem.W.alike (place r) (place q) = true := by
  obtain ⟨r', c, line, rfl⟩ := hr
  obtain ⟨q', e, line', rfl⟩ := hq
  have z : PySem.W.alikeAll ((NestedKey.datas (κB b r') ++ ([PyData.int c, .int (c + size)] ++ sps.map fun s => PyData.int (tot s line))).map rankD) ((NestedKey.datas (κB b q') ++ ([PyData.int e, .int (e + size)] ++ sps.map fun s => PyData.int (tot s line'))).map rankD) = true := by
    rw [List.map_append (l₁ := NestedKey.datas (κB b r')), List.map_append (l₁ := NestedKey.datas (κB b q'))]
    refine alike_app _ _ _ _ ?_ alike_keys ?_
    · rw [List.length_map, List.length_map, datas_len, datas_len]
      cases b <;> rfl
    · rw [List.map_append (l₁ := [PyData.int c, .int (c + size)]), List.map_append (l₁ := [PyData.int e, .int (e + size)])]
      refine alike_app _ _ _ _ rfl rfl ?_
      rw [List.map_map, List.map_map]
      exact alike_maps _ _ fun x _ y _ => rfl
  show (true && (true && (PySem.W.alikeAll ((outRow (NestedKey.datas (κB b r')) size c sps line).vs.map rankD) ((outRow (NestedKey.datas (κB b q')) size e sps line').vs.map rankD) && true))) = true
  have z' : PySem.W.alikeAll ((outRow (NestedKey.datas (κB b r')) size c sps line).vs.map rankD) ((outRow (NestedKey.datas (κB b q')) size e sps line').vs.map rankD) = true := z
  rw [z']
  rfl
theorem alike_ent {d e : PyData} (h : IsEnt d) (g : IsEnt e) : PySem.W.alike d e = true := by
  obtain ⟨x, i, j, rfl⟩ := h
  obtain ⟨y, k, l, rfl⟩ := g
  rfl
theorem alike_lot {d e : PyData} (h : IsLot d) (g : IsLot e) : PySem.W.alike d e = true := by
  obtain ⟨es, rfl, h⟩ := h
  obtain ⟨fs, rfl, g⟩ := g
  have := alike_maps (f := id) (g := id) es fs fun x hx y hy => alike_ent (h x hx) (g y hy)
  rw [List.map_id, List.map_id] at this
  exact this
theorem alike_lotK {b : Bool} {size : Int} {sps : List Sp3} {r q : Rw × PyData} (hr : IsOut b size sps r.1) (hq : IsOut b size sps q.1) (lr : IsLot r.2) (lq : IsLot q.2) : PySem.W.alike (lotK r) (lotK q) = true := by
  show (PySem.W.alike (place r.1) (place q.1) && (PySem.W.alike r.2 q.2 && true)) = true
  rw [alike_out hr hq, alike_lot lr lq]
  rfl
/-- what rows_with_lots gives once its steps are there -/
theorem rw_end {ps : List (Str × PyData)} {s4 s5 : Sl} {outs : Ln} {b : Bool} {size : Int} {sps : List Sp3} (hmk : m_marks_of [Q, told] = some marks) (hc : slT none (some (-1)) Q = some (.tuple (pairsL ps))) (h : forGo [4, 5] (aTup [aName, aName]) lendG (pairsL ps) (wE Q told marks [] .un .un) = some (.next, wE Q told marks kvs s4 s5)) (ho : m_out_of [Q] = some (.str nm)) (hs : ixD (kvD kvs) (.str nm) = some (.list (outs.map encL))) (hsp : sps.length ≤ 10) (h1 : ∀ q ∈ outs, IsOut b size sps q.1) (h2 : LotsOk outs) (hl : outs.length ≤ 1000) : ∃ ys : Ln, ys.Perm outs ∧ m_rows_with_lots [Q, told] = some (.list (ys.map encL)) := by
  obtain ⟨ys, p, so⟩ := sortC (m := m_lam) (e := encL) (k := lotK) (xs := outs) (a := e2 ixD (eVar 3) (eCall m_out_of (aCons (eVar 0) (aNil)))) (ρ := wE Q told marks kvs s4 s5) (ρ1 := ⟨[.dat Q, .dat told, .dat marks, .dat (kvD kvs), s4, s5], none⟩) (e2C (x := kvD kvs) (y := .str nm) rfl (callC (aC (x := Q) rfl aN) ho) hs) (fun q hq => m_lam_eq (out_ok (h1 q hq) hsp)) (small_of (by omega)) (alikeOk_of (fun r hr q hq => alike_lotK (h1 r hr) (h1 q hq) (h2 r hr) (h2 q hq)) (fun q _ => ⟨_, _, rfl⟩) fun q hq => kd_lotK (h2 q hq))
  refine ⟨ys, p, runC (seqN (parC (s := .dat marks) (s' := .dK []) (vDC (callC (aC (x := Q) rfl (aC (x := told) rfl aN)) hmk)) rfl (ρ3 := wE Q told marks [] .un .un)) (seqN (forC (datC (e1C (x := Q) rfl hc) rfl) h) (retC (fzC so))))⟩
/-! ### no dicts -/
theorem nds {α : Type} {f : α → PyData} : ∀ {xs : List α}, (∀ x ∈ xs, noDict (f x) = true) → noDicts (xs.map f) = true
  | [], _ => rfl
  | x :: xs, h => by
    rw [List.map_cons, noDicts, h x List.mem_cons_self, nds fun y hy => h y (List.mem_cons_of_mem _ hy)]
    rfl
theorem nd_val {d : PyData} (h : Val d) : noDict d = true := by cases h <;> rfl
theorem nd_L {q : Rw × PyData} (h : RwOk q.1) (hl : IsLot q.2) : noDict (encL q) = true := by
  obtain ⟨es, e, he⟩ := hl
  have z1 : noDicts q.1.vs = true := by
    have := nds (f := id) (xs := q.1.vs) fun v hv => nd_val (h.flat v hv)
    rwa [List.map_id] at this
  have z2 : noDicts es = true := by
    have := nds (f := id) (xs := es) fun v hv => by
      obtain ⟨x, i, j, rfl⟩ := he v hv
      rfl
    rwa [List.map_id] at this
  unfold encL encR
  rw [e]
  show ((true && (true && (noDicts q.1.vs && true))) && (noDicts es && true)) = true
  rw [z1, z2]
  rfl
theorem nd_Ln {xs : Ln} (h : ∀ q ∈ xs, RwOk q.1) (hl : LotsOk xs) : noDict (.list (xs.map encL)) = true := nds fun q hq => nd_L (h q hq) (hl q hq)
end Dl
end
section
set_option Elab.async false
set_option linter.all false
set_option autoImplicit false
set_option maxRecDepth 100000
set_option maxHeartbeats 1000000
/-! R4: the sums of both steps. -/
namespace Dl
open PySem
variable {b : Bool} {hows : List Str} {size mk : Int}
theorem toKey_tup (r : Rw) : toKey (tupK (κB b r)) = some (.tup (κB b r)) := by
  rw [tupK_data]
  unfold toKey
  rw [toK_data]
  show (if decide ((NestedKey.tup (κB b r)).depth ≤ 8) = true then some (NestedKey.tup (κB b r)) else none) = _
  rw [if_pos (decide_eq_true (Nat.le_trans (κB_depth b r) (by omega)))]
/-- the worths of the keys -/
theorem keys_worths {cs : List (Str × Str)} {r : Rw} (hl : cs.length ≤ 20) (h : b = true → (∃ k cs', cs = (("who" : Str), k) :: cs') ∧ ∃ w vs, r.vs = w :: vs ∧ (w = .none ∨ ∃ x, w = .str x)) : m_worths_of [colsD cs, keysB b, .tuple r.vs] = some (tupK (κB b r)) := by
  cases b with
  | false => exact m_worths_nil (by omega)
  | true =>
    obtain ⟨⟨k, cs', rfl⟩, w, vs, e, hw⟩ := h rfl
    have : tupK (κB true r) = .tuple [w] := by
      show PyData.tuple [(kvOf (r.vs.getD 0 .none)).data] = _
      rw [e]
      show PyData.tuple [(kvOf w).data] = _
      rw [kv_data hw]
    rw [this, e]
    exact m_worths_who (by rw [List.length_cons] at hl; omega)
theorem spsOnce_mem {s : Sp3} (H : HowsOk hows) (h : s ∈ spsOnce hows) : ∃ n g, s = sp1 n g ∧ IsHow g := by
  rcases H with ⟨x, rfl, i⟩ | ⟨x, y, rfl, i, j⟩
  · rw [List.mem_singleton.mp h]
    exact ⟨_, _, rfl, i⟩
  · rcases List.mem_cons.mp h with rfl | h
    · exact ⟨_, _, rfl, i⟩
    · rw [List.mem_singleton.mp h]
      exact ⟨_, _, rfl, j⟩
theorem once_len (H : HowsOk hows) : (spsOnce hows).length ≤ 10 ∧ (spsOnce hows).length = hows.length := by
  rcases H with ⟨x, rfl, i⟩ | ⟨x, y, rfl, i, j⟩ <;> exact ⟨by show _ ≤ _; simp [spsOnce], rfl⟩
/-- the sums of drawn rows -/
theorem sum_src {src : Str} {xs : Ln} (H : HowsOk hows) (hs : 1 ≤ size) (hs2 : size ≤ 9) (hd : ∀ q ∈ xs, Drawn q.1) (hl : LotsOk xs) (hw : wgt xs < 64) (hf : xs.length ≤ 1000) : ∃ outs : Ln, m_sums_of [colsD cols0, sumSt src b size (spsOnce hows), .int mk, .list (xs.map encL)] = some (.list (outs.map encL)) ∧ (outs.map (·.1)).Perm (flat (κB b) size mk (spsOnce hows) xs) ∧ LotsOk outs ∧ wgt outs ≤ wgt xs := by
  have ok : LnOk (colsD cols0) (spsOnce hows) xs := by
    refine ⟨hf, fun s hm => ?_, hl, hw, fun q hq => ⟨(hd q hq).t0, Int.le_trans (hd q hq).t1 (by omega)⟩⟩
    obtain ⟨n, g, rfl, i⟩ := spsOnce_mem H hm
    refine ⟨i, fun q hq => ?_, fun q hq => drawn_num (hd q hq), fun q hq => fits_sg (hd q hq)⟩
    obtain ⟨w, x, e, _, _⟩ := (hd q hq).vs
    show m_worth [colsD cols0, colE "n", .tuple q.1.vs] = some (q.1.vs.getD 1 .none)
    rw [e]
    exact worth0
  obtain ⟨outs, e, p, l, w⟩ := m_sums_eq (cs := colsD cols0) (src := .str src) (ks := keysB b) (mk := mk) (kn := fun q => κB b q.1) hs (by omega) (once_len H).1 ok (fun q hq => ⟨_, keys_worths (by simp) (fun _ => ⟨⟨_, _, rfl⟩, by
    obtain ⟨w, x, e, hw, _⟩ := (hd q hq).vs
    exact ⟨w, _, e, hw⟩⟩), toKey_tup q.1⟩) (fun q _ => κB_len b q.1)
  refine ⟨outs, e, ?_, l, w⟩
  rw [p]
  exact rowsK_flat
/-- rows of the first step -/
def IsRow1 (b : Bool) (size : Int) (hows : List Str) (r : Rw) : Prop := ∃ (q : Rw) (line : Ln), Drawn q ∧ r = outRow (NestedKey.datas (κB b q)) size (lowOf size q.t) (spsOnce hows) line
theorem flat_row1 {xs : Ln} {r : Rw} (hd : ∀ q ∈ xs, Drawn q.1) (h : r ∈ flat (κB b) size mk (spsOnce hows) xs) : IsRow1 b size hows r := by
  unfold flat at h
  obtain ⟨p, hp, rfl⟩ := List.mem_map.mp h
  obtain ⟨⟨q, hq, e⟩, _⟩ := idx_mem.mp hp
  refine ⟨q.1, cell (κB b) size xs p, hd q hq, ?_⟩
  have e1 : p.1 = κB b q.1 := by rw [← e]; rfl
  have e2 : p.2 = lowOf size q.1.t := by rw [← e]; rfl
  unfold outP
  rw [e1, e2]
theorem row1_time {r : Rw} (hs : 1 ≤ size) (hs2 : size ≤ 9) (h : IsRow1 b size hows r) : 0 ≤ r.t ∧ r.t ≤ 1000 := by
  obtain ⟨q, line, hd, rfl⟩ := h
  obtain ⟨b1, b2, _, _⟩ := low_bounds hs hd.t0
  have := hd.t1
  constructor
  · show 0 ≤ lowOf size q.t + size - 1
    omega
  · show lowOf size q.t + size - 1 ≤ 1000
    omega
theorem row1_out {r : Rw} (h : IsRow1 b size hows r) : IsOut b size (spsOnce hows) r := by
  obtain ⟨q, line, _, rfl⟩ := h
  exact ⟨q, _, line, rfl⟩
theorem kl_len (q : Rw) : (NestedKey.datas (κB b q)).length = klB b := by
  rw [datas_len]
  cases b <;> rfl
theorem kv_kv (d : PyData) : kvOf (kvOf d).data = kvOf d := by cases d <;> rfl
theorem κB_out {q : Rw} {c : Int} {sps : List Sp3} {line : Ln} : κB b (outRow (NestedKey.datas (κB b q)) size c sps line) = κB b q := by
  cases b with
  | false => rfl
  | true =>
    show [kvOf (kvOf (q.vs.getD 0 .none)).data] = [kvOf (q.vs.getD 0 .none)]
    rw [kv_kv]
/-- the pairs of sums of both steps -/
def prOf (b : Bool) : List Str → List (Sp3 × Sp3)
  | [h] => [(sp1 "a" h, sp2 "a" (klB b + 2))]
  | [h, g] => [(sp1 "a" h, sp2 "a" (klB b + 2)), (sp1 "b" g, sp2 "b" (klB b + 3))]
  | _ => []
theorem pr_fst (H : HowsOk hows) : (prOf b hows).map (·.1) = spsOnce hows := by
  rcases H with ⟨x, rfl, i⟩ | ⟨x, y, rfl, i, j⟩ <;> rfl
theorem pr_snd (H : HowsOk hows) : (prOf b hows).map (·.2) = spsLate (klB b) hows := by
  rcases H with ⟨x, rfl, i⟩ | ⟨x, y, rfl, i, j⟩ <;> rfl
/-- what the second step reads -/
theorem late_reads (H : HowsOk hows) : ∀ p ∈ prOf b hows, p.2.how = "sum" ∧ ∀ (q : Rw) (c : Int) (line : Ln), p.2.col (outRow (NestedKey.datas (κB b q)) size c (spsOnce hows) line) = .int (tot p.1 line) ∧ m_worth [colsD (colsF b hows), p.2.e, .tuple (outRow (NestedKey.datas (κB b q)) size c (spsOnce hows) line).vs] = some (.int (tot p.1 line)) := by
  intro p hp
  rcases H with ⟨x, rfl, i⟩ | ⟨x, y, rfl, i, j⟩
  · rw [List.mem_singleton.mp hp]
    refine ⟨rfl, fun q c line => ?_⟩
    obtain ⟨g1, g2⟩ := worthF1 (b := b) (h := x) (κ := NestedKey.datas (κB b q)) (i := .int c) (j := .int (c + size)) (x := .int (tot (sp1 "a" x) line)) (kl_len q)
    exact ⟨g2, g1⟩
  · rcases List.mem_cons.mp hp with rfl | hp
    · refine ⟨rfl, fun q c line => ?_⟩
      obtain ⟨⟨g1, g2⟩, _⟩ := worthF2 (b := b) (h := x) (g := y) (κ := NestedKey.datas (κB b q)) (i := .int c) (j := .int (c + size)) (x := .int (tot (sp1 "a" x) line)) (y := .int (tot (sp1 "b" y) line)) (kl_len q)
      exact ⟨g2, g1⟩
    · rw [List.mem_singleton.mp hp]
      refine ⟨rfl, fun q c line => ?_⟩
      obtain ⟨_, g1, g2⟩ := worthF2 (b := b) (h := x) (g := y) (κ := NestedKey.datas (κB b q)) (i := .int c) (j := .int (c + size)) (x := .int (tot (sp1 "a" x) line)) (y := .int (tot (sp1 "b" y) line)) (kl_len q)
      exact ⟨g2, g1⟩
theorem two_ok {zs : Ln} (H : HowsOk hows) : Two (κB b) (κB b) size (prOf b hows) zs := by
  refine ⟨fun q _ c line => κB_out, fun p hp => (late_reads (b := b) (size := size) H p hp).1, fun p hp q _ c line => ?_⟩
  rw [pr_fst H]
  exact ((late_reads (b := b) (size := size) H p hp).2 q.1 c line).1
/-- the sums of the first step's rows -/
theorem sum_out {src : Str} {zs : Ln} (H : HowsOk hows) (hs : 1 ≤ size) (hs2 : size ≤ 9) (hd : ∀ q ∈ zs, IsRow1 b size hows q.1) (hl : LotsOk zs) (hw : wgt zs < 64) (hf : zs.length ≤ 1000) : ∃ outs : Ln, m_sums_of [colsD (colsF b hows), sumSt src b size (spsLate (klB b) hows), .int mk, .list (zs.map encL)] = some (.list (outs.map encL)) ∧ (outs.map (·.1)).Perm (flat (κB b) size mk (spsLate (klB b) hows) zs) ∧ LotsOk outs ∧ wgt outs ≤ wgt zs := by
  have ll : (spsLate (klB b) hows).length ≤ 10 := by
    rcases H with ⟨x, rfl, i⟩ | ⟨x, y, rfl, i, j⟩ <;> simp [spsLate]
  have ok : LnOk (colsD (colsF b hows)) (spsLate (klB b) hows) zs := by
    refine ⟨hf, fun s hm => ?_, hl, hw, fun q hq => row1_time hs hs2 (hd q hq)⟩
    rw [← pr_snd H] at hm
    obtain ⟨p, hp, rfl⟩ := List.mem_map.mp hm
    obtain ⟨g1, g2⟩ := late_reads (b := b) (size := size) H p hp
    refine ⟨.inr g1, fun q hq => ?_, fun q hq => ?_, fun q hq => ?_⟩
    · obtain ⟨r, line, _, e⟩ := hd q hq
      obtain ⟨c1, c2⟩ := g2 r (lowOf size r.t) line
      rw [e]
      rw [c1]
      exact c2
    · obtain ⟨r, line, _, e⟩ := hd q hq
      rw [e, (g2 r (lowOf size r.t) line).1]
      exact .inr ⟨_, rfl⟩
    · obtain ⟨r, line, _, e⟩ := hd q hq
      rw [e]
      rfl
  obtain ⟨outs, e, p, l, w⟩ := m_sums_eq (cs := colsD (colsF b hows)) (src := .str src) (ks := keysB b) (mk := mk) (kn := fun q => κB b q.1) hs (by omega) ll ok (fun q hq => ⟨_, keys_worths (by rcases H with ⟨x, rfl, i⟩ | ⟨x, y, rfl, i, j⟩ <;> cases b <;> simp [colsF, namesH]) (fun hb => by
    subst hb
    refine ⟨⟨_, _, rfl⟩, ?_⟩
    obtain ⟨r, line, _, e⟩ := hd q hq
    rw [e]
    refine ⟨(kvOf (r.vs.getD 0 .none)).data, _, rfl, ?_⟩
    cases r.vs.getD 0 .none <;> first | exact .inl rfl | exact .inr ⟨_, rfl⟩), toKey_tup q.1⟩) (fun q _ => κB_len b q.1)
  refine ⟨outs, e, ?_, l, w⟩
  rw [p]
  exact rowsK_flat
end Dl
end
section
set_option Elab.async false
set_option linter.all false
set_option autoImplicit false
set_option maxRecDepth 100000
set_option maxHeartbeats 1000000
/-! R5: the rows of both queries. -/
namespace Dl
open PySem
def R (parts : List (List EntT)) : List Rw := parts.flatMap rowsOf
theorem rowsAt_fst {nm : Str} {j : Int} : ∀ (es : List EntT) (p : Int), (rowsAt nm j es p).map (·.1) = rowsOf es
  | [], p => rfl
  | .mark m :: es, p => rowsAt_fst es (p + 1)
  | .row r :: es, p => by rw [rowsAt, List.map_cons, rowsAt_fst es (p + 1), rowsOf]
theorem srcRows_fst {nm : Str} : ∀ (ps : List (List EntT)) (j : Int), (srcRows nm ps j).map (·.1) = R ps
  | [], j => rfl
  | es :: ps, j => by
    rw [srcRows, List.map_append, rowsAt_fst, srcRows_fst ps (j + 1)]
    rfl
theorem rowsAt_lot {nm : Str} {j : Int} : ∀ (es : List EntT) (p : Int), ∀ q ∈ rowsAt nm j es p, IsLot q.2 ∧ lotLen q.2 = 1
  | [], p, q, h => nomatch h
  | .mark m :: es, p, q, h => rowsAt_lot es (p + 1) q h
  | .row r :: es, p, q, h => by
    rw [rowsAt] at h
    rcases List.mem_cons.mp h with rfl | h
    · refine ⟨⟨_, rfl, fun e he => ?_⟩, rfl⟩
      rw [List.mem_singleton.mp he]
      exact ⟨_, _, _, rfl⟩
    · exact rowsAt_lot es (p + 1) q h
theorem srcRows_lot {nm : Str} : ∀ (ps : List (List EntT)) (j : Int), ∀ q ∈ srcRows nm ps j, IsLot q.2 ∧ lotLen q.2 = 1
  | [], j, q, h => nomatch h
  | es :: ps, j, q, h => by
    rw [srcRows] at h
    rcases List.mem_append.mp h with h | h
    · exact rowsAt_lot es 0 q h
    · exact srcRows_lot ps (j + 1) q h
theorem wgt_one : ∀ {xs : Ln}, (∀ q ∈ xs, lotLen q.2 = 1) → wgt xs = xs.length
  | [], _ => rfl
  | q :: xs, h => by
    have ih := wgt_one (xs := xs) fun p hp => h p (List.mem_cons_of_mem _ hp)
    unfold wgt at *
    rw [List.map_cons, List.sum_cons, ih, h q List.mem_cons_self, List.length_cons]
    omega
/-- fit parts of a source -/
structure Gd (parts : List (List EntT)) : Prop where
  few : parts.length ≤ 10
  short : ∀ es ∈ parts, es.length ≤ 1000
  pos : ∀ es ∈ parts, ∀ m ∈ marksIn es, 0 ≤ m
  top : ∀ es ∈ parts, ∀ m ∈ marksIn es, m ≤ 1000000000
  late : ∀ es ∈ parts, LateFree es 0
  drawn : ∀ r ∈ R parts, Drawn r
theorem Gd.ok {parts : List (List EntT)} (h : Gd parts) : PartsOk parts := ⟨h.few, h.short, h.pos⟩
theorem sum_le {n : Nat} : ∀ {l : List Nat}, (∀ x ∈ l, x ≤ n) → l.sum ≤ n * l.length
  | [], _ => Nat.zero_le _
  | x :: l, h => by
    have ih := sum_le (l := l) fun y hy => h y (List.mem_cons_of_mem _ hy)
    have := h x List.mem_cons_self
    rw [List.sum_cons, List.length_cons, Nat.mul_succ]
    omega
theorem Gd.all {parts : List (List EntT)} (h : Gd parts) : (parts.map List.length).sum ≤ 90000 := by
  have z := sum_le (n := 1000) (l := parts.map List.length) fun x hx => by
    obtain ⟨es, he, rfl⟩ := List.mem_map.mp hx
    exact h.short es he
  have f := h.few
  rw [List.length_map] at z
  omega
theorem maxI_le {B : Int} : ∀ (l : List Int) (m : Int), m ≤ B → (∀ x ∈ l, x ≤ B) → maxI m l ≤ B
  | [], m, h, _ => h
  | x :: l, m, h, hl => by
    rw [maxI]
    refine maxI_le l _ ?_ fun y hy => hl y (List.mem_cons_of_mem _ hy)
    split
    · exact hl x List.mem_cons_self
    · exact h
theorem markL_le {parts : List (List EntT)} (h : Gd parts) : markL parts ≤ 1000000000 := by
  cases parts with
  | nil => exact Int.le_refl _
  | cons es ps =>
    have a := minI_lb (ps.map markP) (markP es) (markP es) List.mem_cons_self
    have c : markP es ≤ 1000000000 := maxI_le _ _ (by omega) (h.top es List.mem_cons_self)
    show minI (markP es) (ps.map markP) ≤ _
    omega
structure SrcOk (nm : Str) (parts : List (List EntT)) (X : Ln) : Prop where
  src : m_of_source [.str nm, partsD parts] = some (.list (X.map encL))
  fst : X.map (·.1) = R parts
  drawn : ∀ q ∈ X, Drawn q.1
  lots : LotsOk X
  wgt : wgt X = (R parts).length
theorem src_ok {nm : Str} {parts : List (List EntT)} (h : Gd parts) : SrcOk nm parts (srcRows nm parts 0) := by
  have f := srcRows_fst (nm := nm) parts 0
  refine ⟨m_source_eq h.late h.all, f, fun q hq => h.drawn q.1 ?_, fun q hq => (srcRows_lot parts 0 q hq).1, ?_⟩
  · rw [← f]
    exact List.mem_map.mpr ⟨q, hq, rfl⟩
  · rw [wgt_one fun q hq => (srcRows_lot parts 0 q hq).2, ← f, List.length_map]
theorem drawn_ok {r : Rw} (h : Drawn r) : RwOk r := by
  obtain ⟨w, n, e, hw, hn⟩ := h.vs
  refine ⟨fun v hv => ?_, by rw [e]; simp⟩
  rw [e] at hv
  rcases List.mem_cons.mp hv with rfl | hv
  · rcases hw with rfl | ⟨x, rfl⟩
    · exact .non
    · exact .str _
  · rw [List.mem_singleton.mp hv]
    rcases hn with rfl | ⟨i, rfl⟩
    · exact .non
    · exact .int _
theorem wgt_app (xs ys : Ln) : wgt (xs ++ ys) = wgt xs + wgt ys := by
  unfold wgt
  rw [List.map_append, List.sum_append]
theorem lots_app {xs ys : Ln} (h1 : LotsOk xs) (h2 : LotsOk ys) : LotsOk (xs ++ ys) := fun q hq => (List.mem_append.mp hq).elim (h1 q) (h2 q)
variable {b : Bool} {hows : List Str} {size : Int} {px py : List (List EntT)}
theorem once_rows (H : HowsOk hows) (hs : 1 ≤ size) (hs2 : size ≤ 9) (hx : Gd px) (hy : Gd py) (hn : (R px).length + (R py).length < 60) : ∃ ys : Ln, m_rows_with_lots [onceQ hows b size, toldD px py] = some (.list (ys.map encL)) ∧ (ys.map (·.1)).Perm (flat (κB b) size (mkMin px py) (spsOnce hows) (lift (R px ++ R py))) := by
  have sx := src_ok (nm := "x") hx
  have sy := src_ok (nm := "y") hy
  generalize srcRows "x" px 0 = X at sx
  generalize srcRows "y" py 0 = Y at sy
  have lx : X.length = (R px).length := by rw [← sx.fst, List.length_map]
  have ly : Y.length = (R py).length := by rw [← sy.fst, List.length_map]
  have dz : ∀ q ∈ X ++ Y, Drawn q.1 := fun q hq => (List.mem_append.mp hq).elim (sx.drawn q) (sy.drawn q)
  have lz := lots_app sx.lots sy.lots
  obtain ⟨outs, e, p, l, w⟩ := sum_src (b := b) (size := size) (mk := mkMin px py) (src := "z") (xs := X ++ Y) H hs hs2 dz lz (by rw [wgt_app, sx.wgt, sy.wgt]; omega) (by rw [List.length_append]; omega)
  have io : ∀ q ∈ outs, IsOut b size (spsOnce hows) q.1 := fun q hq => flat_out (p.mem_iff.mp (List.mem_map.mpr ⟨q, hq, rfl⟩))
  have ol : outs.length ≤ 1000 := by
    have h1 := p.length_eq
    have h2 := flat_len (κ := κB b) (size := size) (mk := mkMin px py) (sps := spsOnce hows) (xs := X ++ Y)
    rw [List.length_map] at h1
    rw [List.length_append] at h2
    omega
  have pf : (flat (κB b) size (mkMin px py) (spsOnce hows) (X ++ Y)).Perm (flat (κB b) size (mkMin px py) (spsOnce hows) (lift (R px ++ R py))) := flat_perm (by rw [lift_fst, List.map_append, sx.fst, sy.fst])
  have fin : forGo [4, 5] (aTup [aName, aName]) lendG (pairsL (onceSt hows b size)) (wE (onceQ hows b size) (toldD px py) (kvD (onceM px py)) [] .un .un) = some (.next, wE (onceQ hows b size) (toldD px py) (kvD (onceM px py)) [("x", .list (X.map encL)), ("y", .list (Y.map encL)), ("z", .list ((X ++ Y).map encL)), ("s", .list (outs.map encL))] (.dat (.str "s")) (.dat (sumSt "z" b size (spsOnce hows)))) := by
    refine rw_cons (mk := .int (markL px)) (d := .list (X.map encL)) (kvs' := [("x", .list (X.map encL))]) (by kernel_rfl) (of_step_source o_step_x o_ah_x told_x sx.src) (nd_Ln (fun q hq => drawn_ok (sx.drawn q hq)) sx.lots) (by simp) (by kernel_rfl) ?_
    refine rw_cons (mk := .int (markL py)) (d := .list (Y.map encL)) (kvs' := [("x", .list (X.map encL)), ("y", .list (Y.map encL))]) (by kernel_rfl) (of_step_source o_step_y o_ah_y told_y sy.src) (nd_Ln (fun q hq => drawn_ok (sy.drawn q hq)) sy.lots) (by simp) (by kernel_rfl) ?_
    refine rw_cons (mk := .int (mkMin px py)) (d := .list ((X ++ Y).map encL)) (kvs' := [("x", .list (X.map encL)), ("y", .list (Y.map encL)), ("z", .list ((X ++ Y).map encL))]) (by kernel_rfl) ?_ (nd_Ln (fun q hq => drawn_ok (dz q hq)) lz) (by simp) (by kernel_rfl) ?_
    · rw [List.map_append]
      exact of_step_both (cl := fun _ => colsD cols0) o_step_z o_ah_z (fun a ha => o_cols H a (by simp only [List.mem_cons, List.not_mem_nil, or_false] at ha ⊢; rcases ha with rfl | rfl <;> simp)) (by kernel_rfl) (by kernel_rfl) (by rw [List.length_map, List.length_map]; omega)
    refine rw_cons (mk := .int (mkMin px py)) (d := .list (outs.map encL)) (kvs' := [("x", .list (X.map encL)), ("y", .list (Y.map encL)), ("z", .list ((X ++ Y).map encL)), ("s", .list (outs.map encL))]) (by kernel_rfl) (of_step_sum o_step_s o_ah_s (o_cols H "z" (by simp)) (by kernel_rfl) e) (nd_Ln (fun q hq => out_ok (io q hq) (once_len H).1) l) (by simp) (by kernel_rfl) rfl
  obtain ⟨ys, py', so⟩ := rw_end (o_marks hx.ok hy.ok) o_cut fin o_out (by kernel_rfl) (once_len H).1 io l ol
  exact ⟨ys, so, ((py'.map _).trans p).trans pf⟩
theorem twice_rows (H : HowsOk hows) (hs : 1 ≤ size) (hs2 : size ≤ 9) (hx : Gd px) (hy : Gd py) (hn : (R px).length + (R py).length < 60) : ∃ ys : Ln, m_rows_with_lots [twiceQ hows b size, toldD px py] = some (.list (ys.map encL)) ∧ (ys.map (·.1)).Perm (flat (κB b) size (mkMin px py) (spsOnce hows) (lift (R px ++ R py))) := by
  have sx := src_ok (nm := "x") hx
  have sy := src_ok (nm := "y") hy
  generalize srcRows "x" px 0 = X at sx
  generalize srcRows "y" py 0 = Y at sy
  have lx : X.length = (R px).length := by rw [← sx.fst, List.length_map]
  have ly : Y.length = (R py).length := by rw [← sy.fst, List.length_map]
  obtain ⟨F, e1, p1, l1, w1⟩ := sum_src (b := b) (size := size) (mk := markL px) (src := "x") (xs := X) H hs hs2 sx.drawn sx.lots (by rw [sx.wgt]; omega) (by omega)
  obtain ⟨G, e2, p2, l2, w2⟩ := sum_src (b := b) (size := size) (mk := markL py) (src := "y") (xs := Y) H hs hs2 sy.drawn sy.lots (by rw [sy.wgt]; omega) (by omega)
  have r1 : ∀ q ∈ F, IsRow1 b size hows q.1 := fun q hq => flat_row1 sx.drawn (p1.mem_iff.mp (List.mem_map.mpr ⟨q, hq, rfl⟩))
  have r2 : ∀ q ∈ G, IsRow1 b size hows q.1 := fun q hq => flat_row1 sy.drawn (p2.mem_iff.mp (List.mem_map.mpr ⟨q, hq, rfl⟩))
  have rz : ∀ q ∈ F ++ G, IsRow1 b size hows q.1 := fun q hq => (List.mem_append.mp hq).elim (r1 q) (r2 q)
  have lz := lots_app l1 l2
  have fl : F.length ≤ X.length := by
    have h1 := p1.length_eq
    have h2 := flat_len (κ := κB b) (size := size) (mk := markL px) (sps := spsOnce hows) (xs := X)
    rw [List.length_map] at h1
    omega
  have gl : G.length ≤ Y.length := by
    have h1 := p2.length_eq
    have h2 := flat_len (κ := κB b) (size := size) (mk := markL py) (sps := spsOnce hows) (xs := Y)
    rw [List.length_map] at h1
    omega
  have wx := sx.wgt
  have wy := sy.wgt
  obtain ⟨outs, e, p, l, w⟩ := sum_out (b := b) (size := size) (mk := mkMin px py) (src := "z") (zs := F ++ G) H hs hs2 rz lz (by rw [wgt_app]; omega) (by rw [List.length_append]; omega)
  have io : ∀ q ∈ outs, IsOut b size (spsLate (klB b) hows) q.1 := fun q hq => flat_out (p.mem_iff.mp (List.mem_map.mpr ⟨q, hq, rfl⟩))
  have ll : (spsLate (klB b) hows).length ≤ 10 := by
    rcases H with ⟨x, rfl, i⟩ | ⟨x, y, rfl, i, j⟩ <;> simp [spsLate]
  have ol : outs.length ≤ 1000 := by
    have h1 := p.length_eq
    have h2 := flat_len (κ := κB b) (size := size) (mk := mkMin px py) (sps := spsLate (klB b) hows) (xs := F ++ G)
    rw [List.length_map] at h1
    rw [List.length_append] at h2
    omega
  have mx := markL_le hx
  have my := markL_le hy
  have mle1 : mkMin px py ≤ markL px := minI_lb _ _ _ List.mem_cons_self
  have mle2 : mkMin px py ≤ markL py := minI_lb _ _ _ (List.mem_cons_of_mem _ List.mem_cons_self)
  have du : ∀ m : Int, mkMin px py ≤ m → m ≤ 1000000000 → ∀ e, due (mkMin px py) e = true → due m e = true := fun m h1 h2 e h => by
    unfold due at h ⊢
    rw [Bool.or_eq_true, decide_eq_true_eq, decide_eq_true_eq] at h ⊢
    omega
  have ts := two_steps (κ := κB b) (κ2 := κB b) (size := size) (mk := mkMin px py) (pr := prOf b hows) (X := X) (Y := Y) (F := F) (G := G) hs (two_ok H) (by rw [pr_fst H]; exact p1) (by rw [pr_fst H]; exact p2) (du _ mle1 mx) (du _ mle2 my)
  rw [pr_fst H, pr_snd H] at ts
  have pf : (flat (κB b) size (mkMin px py) (spsOnce hows) (X ++ Y)).Perm (flat (κB b) size (mkMin px py) (spsOnce hows) (lift (R px ++ R py))) := flat_perm (by rw [lift_fst, List.map_append, sx.fst, sy.fst])
  have fin : forGo [4, 5] (aTup [aName, aName]) lendG (pairsL (twiceSt hows b size)) (wE (twiceQ hows b size) (toldD px py) (kvD (twiceM px py)) [] .un .un) = some (.next, wE (twiceQ hows b size) (toldD px py) (kvD (twiceM px py)) [("x", .list (X.map encL)), ("y", .list (Y.map encL)), ("f", .list (F.map encL)), ("g", .list (G.map encL)), ("z", .list ((F ++ G).map encL)), ("s", .list (outs.map encL))] (.dat (.str "s")) (.dat (sumSt "z" b size (spsLate (klB b) hows)))) := by
    refine rw_cons (mk := .int (markL px)) (d := .list (X.map encL)) (kvs' := [("x", .list (X.map encL))]) (by kernel_rfl) (of_step_source t_step_x t_ah_x told_x sx.src) (nd_Ln (fun q hq => drawn_ok (sx.drawn q hq)) sx.lots) (by simp) (by kernel_rfl) ?_
    refine rw_cons (mk := .int (markL py)) (d := .list (Y.map encL)) (kvs' := [("x", .list (X.map encL)), ("y", .list (Y.map encL))]) (by kernel_rfl) (of_step_source t_step_y t_ah_y told_y sy.src) (nd_Ln (fun q hq => drawn_ok (sy.drawn q hq)) sy.lots) (by simp) (by kernel_rfl) ?_
    refine rw_cons (mk := .int (markL px)) (d := .list (F.map encL)) (kvs' := [("x", .list (X.map encL)), ("y", .list (Y.map encL)), ("f", .list (F.map encL))]) (by kernel_rfl) (of_step_sum t_step_f t_ah_f (t_cols H "x" (by simp)) (by kernel_rfl) e1) (nd_Ln (fun q hq => out_ok (row1_out (r1 q hq)) (once_len H).1) l1) (by simp) (by kernel_rfl) ?_
    refine rw_cons (mk := .int (markL py)) (d := .list (G.map encL)) (kvs' := [("x", .list (X.map encL)), ("y", .list (Y.map encL)), ("f", .list (F.map encL)), ("g", .list (G.map encL))]) (by kernel_rfl) (of_step_sum t_step_g t_ah_g (t_cols H "y" (by simp)) (by kernel_rfl) e2) (nd_Ln (fun q hq => out_ok (row1_out (r2 q hq)) (once_len H).1) l2) (by simp) (by kernel_rfl) ?_
    refine rw_cons (mk := .int (mkMin px py)) (d := .list ((F ++ G).map encL)) (kvs' := [("x", .list (X.map encL)), ("y", .list (Y.map encL)), ("f", .list (F.map encL)), ("g", .list (G.map encL)), ("z", .list ((F ++ G).map encL))]) (by kernel_rfl) ?_ (nd_Ln (fun q hq => out_ok (row1_out (rz q hq)) (once_len H).1) lz) (by simp) (by kernel_rfl) ?_
    · rw [List.map_append (l₁ := F)]
      exact of_step_both (cl := fun _ => colsD (colsF b hows)) t_step_z t_ah_z (fun a ha => t_colsF H a (by simp only [List.mem_cons, List.not_mem_nil, or_false] at ha ⊢; rcases ha with rfl | rfl <;> simp)) (by kernel_rfl) (by kernel_rfl) (by rw [List.length_map, List.length_map]; omega)
    refine rw_cons (mk := .int (mkMin px py)) (d := .list (outs.map encL)) (kvs' := [("x", .list (X.map encL)), ("y", .list (Y.map encL)), ("f", .list (F.map encL)), ("g", .list (G.map encL)), ("z", .list ((F ++ G).map encL)), ("s", .list (outs.map encL))]) (by kernel_rfl) (of_step_sum t_step_s t_ah_s (t_colsF H "z" (by simp)) (by kernel_rfl) e) (nd_Ln (fun q hq => out_ok (io q hq) ll) l) (by simp) (by kernel_rfl) rfl
  obtain ⟨ys, py', so⟩ := rw_end (t_marks hx.ok hy.ok) t_cut fin t_out (by kernel_rfl) ll io l ol
  exact ⟨ys, so, (((py'.map _).trans p).trans ts).trans pf⟩
end Dl
end
section
set_option Elab.async false
set_option linter.all false
set_option autoImplicit false
set_option maxRecDepth 100000
set_option maxHeartbeats 1000000
/-! R6: meaning, whole. -/
namespace Dl
open PySem
def kOf : PyData → NestedKey
  | .int i => .num i
  | .str x => .text x
  | _ => .none
def kR (r : Rw) : NestedKey := .tup [.num r.t, .num r.sg, .tup (r.vs.map kOf)]
theorem kOf_data {d : PyData} (h : Val d) : (kOf d).data = d := by cases h <;> rfl
theorem datas_map : ∀ {vs : List PyData}, (∀ v ∈ vs, Val v) → NestedKey.datas (vs.map kOf) = vs
  | [], _ => rfl
  | v :: vs, h => by
    rw [List.map_cons, NestedKey.datas, kOf_data (h v List.mem_cons_self), datas_map fun w hw => h w (List.mem_cons_of_mem _ hw)]
theorem kR_data {r : Rw} (h : RwOk r) : (kR r).data = encR r := by
  show PyData.tuple [.int r.t, .int r.sg, .tuple (NestedKey.datas (r.vs.map kOf))] = _
  rw [datas_map h.flat]
  rfl
theorem kOf_depth (d : PyData) : (kOf d).depth ≤ 0 := by cases d <;> exact Nat.le_refl _
theorem kR_key (r : Rw) : toKey (kR r).data = some (kR r) := by
  unfold toKey
  rw [toK_data]
  have d1 : NestedKey.depthAll (r.vs.map kOf) ≤ 0 := depthAll_le fun k hk => by
    obtain ⟨v, _, rfl⟩ := List.mem_map.mp hk
    exact kOf_depth v
  have dd : (kR r).depth ≤ 8 := by
    unfold kR
    simp only [NestedKey.depth, NestedKey.depthAll]
    omega
  show (if decide ((kR r).depth ≤ 8) = true then some (kR r) else none) = _
  rw [if_pos (decide_eq_true dd)]
theorem bag_rows {rs : List Rw} (h : ∀ r ∈ rs, RwOk r) (hl : rs.length ≤ 1000) : m_bag_of [.list (rs.map encR)] = some (bagOf (rs.map kR)) ∧ m_law_bag [.list (rs.map encR)] = some (bagOf (rs.map kR)) := by
  have e : rs.map encR = (rs.map kR).map (·.data) := by
    rw [List.map_map]
    exact List.map_congr_left fun r hr => (kR_data (h r hr)).symm
  have hk : ∀ k ∈ rs.map kR, toKey k.data = some k := fun k hk => by
    obtain ⟨r, _, rfl⟩ := List.mem_map.mp hk
    exact kR_key r
  rw [e]
  exact ⟨m_bag_of_eq hk (by rw [List.length_map]; omega), m_law_bag_eq hk (by rw [List.length_map]; omega)⟩
theorem same_rows {rs qs : List Rw} (p : rs.Perm qs) : ∃ a c, bagOf (rs.map kR) = .dict a ∧ bagOf (qs.map kR) = .dict c ∧ sameBag a c = true :=
  same_bag (fun k hk => by
    obtain ⟨r, _, rfl⟩ := List.mem_map.mp hk
    exact kR_key r) (fun k hk => by
    obtain ⟨r, _, rfl⟩ := List.mem_map.mp hk
    exact kR_key r) (p.map kR)
theorem meaning_of {Q told : PyData} {ys : Ln} (h : m_rows_with_lots [Q, told] = some (.list (ys.map encL))) (hr : ∀ q ∈ ys, RwOk q.1) (hl : ys.length ≤ 1000) : m_meaning [Q, told] = some (bagOf ((ys.map (·.1)).map kR)) := by
  have cm : lComp (iDat (eCall m_rows_with_lots (aCons (eVar 0) (aCons (eVar 1) (aNil))))) [2, 3] (aTup [aName, aName]) [2, 3] (tYes) (eVar 2) ⟨[.dat Q, .dat told, .un, .un], none⟩ = some (ys.map fun q => encR q.1, ⟨[.dat Q, .dat told, .un, .un], none⟩) :=
    comp_all (e := encL) (fun q => encR q.1) (datC (callC (aC (x := Q) rfl (aC (x := told) rfl aN)) h) rfl) (small_of (by omega)) fun q _ => ⟨[encR q.1, q.2], rfl, rfl⟩
  have e : (ys.map fun q => encR q.1) = (ys.map (·.1)).map encR := by rw [List.map_map]; rfl
  rw [e] at cm
  have bg := (bag_rows (rs := ys.map (·.1)) (fun r hm => by
    obtain ⟨q, hq, rfl⟩ := List.mem_map.mp hm
    exact hr q hq) (by rw [List.length_map]; omega)).1
  exact runC (retC (callC (aC (fzC cm) aN) bg))
theorem perm_ok {ys : Ln} {b : Bool} {size mk : Int} {sps : List Sp3} {xs : Ln} (p : (ys.map (·.1)).Perm (flat (κB b) size mk sps xs)) (hs : sps.length ≤ 10) : (∀ q ∈ ys, RwOk q.1) ∧ ys.length ≤ xs.length := by
  refine ⟨fun q hq => out_ok (flat_out (p.mem_iff.mp (List.mem_map.mpr ⟨q, hq, rfl⟩))) hs, ?_⟩
  have h1 := p.length_eq
  have h2 := flat_len (κ := κB b) (size := size) (mk := mk) (sps := sps) (xs := xs)
  rw [List.length_map] at h1
  omega
/-! ### whole -/
def endP (ps : List (List EntT)) : List (List EntT) := ps.map fun es => es ++ [.mark 1000000000]
theorem dcStep {ix vs : List Nat} {f : Asg} {k a : M PyData} {d q : PyData} {ds ys : List PyData} {x : Str} {acc acc' : List (Str × PyData)} {ρ ρ1 ρ2 : DEnv} {p : List (Str × PyData) × DEnv} (h1 : f d = some ys) (h2 : k (putAll ix ys (wipeE vs ρ)) = some (.str x, ρ1)) (h3 : a ρ1 = some (q, ρ2)) (hp : putS acc x q = acc') (h4 : dcGo ix f vs k a ds acc' ρ2 = some p) : dcGo ix f vs k a (d :: ds) acc ρ = some p := by
  show (asgM ix f d (wipeE vs ρ)).bind _ = _
  unfold asgM
  rw [h1]
  show (k (putAll ix ys (wipeE vs ρ))).bind _ = _
  rw [h2]
  show (a ρ1).bind _ = _
  rw [h3]
  show dcGo ix f vs k a ds (putS acc x q) ρ2 = _
  rw [hp]
  exact h4
def hE (Q told : PyData) (s3 s4 : Sl) : DEnv := ⟨[.dat Q, .dat told, .un, s3, s4, .un], none⟩
def endE : M PyData := e1 tupD (eFz (lComp (iDat (eVar 4)) [5] (aName) [5] (tYes) (eTup (aStar (eVar 5) (aCons (eTup (aCons (eC (.str "mark")) (aCons (eC (.int 1000000000)) (aNil)))) (aNil))))))
theorem end_parts {Q told : PyData} {s3 : Sl} {ps : List (List EntT)} (hl : ps.length ≤ 10) (hs : ∀ es ∈ ps, es.length ≤ 900) : endE (hE Q told s3 (.dat (partsD ps))) = some (partsD (endP ps), hE Q told s3 (.dat (partsD ps))) := by
  have cm : lComp (iDat (eVar 4)) [5] (aName) [5] (tYes) (eTup (aStar (eVar 5) (aCons (eTup (aCons (eC (.str "mark")) (aCons (eC (.int 1000000000)) (aNil)))) (aNil)))) (hE Q told s3 (.dat (partsD ps))) = some (ps.map fun es => .tuple ((es ++ [EntT.mark 1000000000]).map encE), hE Q told s3 (.dat (partsD ps))) := by
    refine comp_all (e := fun es : List EntT => .tuple (es.map encE)) (fun es => .tuple ((es ++ [EntT.mark 1000000000]).map encE)) rfl (small_of (by omega)) fun es he => ⟨[.tuple (es.map encE)], rfl, ?_⟩
    rw [List.map_append]
    exact tupC (aS (x := .tuple (es.map encE)) rfl rfl (aC (tupC (aC (x := .str "mark") rfl (aC (x := .int 1000000000) rfl aN)) rfl) aN)) (small_of (by have := hs es he; rw [List.length_append, List.length_map]; show _ + 1 ≤ _; omega))
  refine e1C (fzC cm) ?_
  show some (PyData.tuple (ps.map fun es => .tuple ((es ++ [EntT.mark 1000000000]).map encE))) = some (partsD (endP ps))
  unfold partsD endP
  rw [List.map_map]
  rfl
theorem whole_of {Q d : PyData} {px py : List (List EntT)} (hx : px.length ≤ 10) (hy : py.length ≤ 10) (sx : ∀ es ∈ px, es.length ≤ 900) (sy : ∀ es ∈ py, es.length ≤ 900) (h : m_meaning [Q, toldD (endP px) (endP py)] = some d) : m_whole [Q, toldD px py] = some d := by
  have it : iItems (eVar 1) (hE Q (toldD px py) .un .un) = some ([.tuple [.str "x", partsD px], .tuple [.str "y", partsD py]], hE Q (toldD px py) .un .un) := rfl
  have go : dcGo [3, 4] (aTup [aName, aName]) [3, 4] (eVar 3) endE [.tuple [.str "x", partsD px], .tuple [.str "y", partsD py]] [] (hE Q (toldD px py) .un .un) = some (([("x", partsD (endP px)), ("y", partsD (endP py))] : List (Str × PyData)), hE Q (toldD px py) (.dat (.str "y")) (.dat (partsD py))) := by
    refine dcStep (ys := [.str "x", partsD px]) rfl (x := "x") (ρ1 := hE Q (toldD px py) (.dat (.str "x")) (.dat (partsD px))) rfl (end_parts hx sx) (acc' := [("x", partsD (endP px))]) (by kernel_rfl) ?_
    refine dcStep (ys := [.str "y", partsD py]) rfl (x := "y") (ρ1 := hE Q (toldD px py) (.dat (.str "y")) (.dat (partsD py))) rfl (end_parts hy sy) (acc' := [("x", partsD (endP px)), ("y", partsD (endP py))]) (by kernel_rfl) rfl
  have dc : dComp (iItems (eVar 1)) [3, 4] (aTup [aName, aName]) [3, 4] (eVar 3) endE (hE Q (toldD px py) .un .un) = some (toldD (endP px) (endP py), hE Q (toldD px py) .un .un) := by
    unfold dComp
    rw [it]
    have c : (ownFree [3, 4] (hE Q (toldD px py) .un .un) && small [PyData.tuple [.str "x", partsD px], .tuple [.str "y", partsD py]].length) = true := rfl
    dsimp only [Option.bind_some]
    rw [if_pos c, go]
    rfl
  exact runC (seqN (setVC (vDC dc) (ρ2 := ⟨[.dat Q, .dat (toldD px py), .dat (toldD (endP px) (endP py)), .un, .un, .un], none⟩)) (retC (callC (aC (x := Q) rfl (aC (x := toldD (endP px) (endP py)) rfl aN)) h)))
/-! ### parts with the last mark -/
/-- drawn parts -/
structure Dp (parts : List (List EntT)) : Prop where
  few : parts.length ≤ 10
  some : parts ≠ []
  short : ∀ es ∈ parts, es.length ≤ 900
  lf : ∀ es ∈ parts, LF es
  drawn : ∀ r ∈ R parts, Drawn r
theorem rows_mem {parts : List (List EntT)} {es : List EntT} {r : Rw} (he : es ∈ parts) (hr : r ∈ rowsOf es) : r ∈ R parts := List.mem_flatMap.mpr ⟨es, he, hr⟩
theorem Dp.gd {parts : List (List EntT)} (h : Dp parts) : Gd parts :=
  ⟨h.few, fun es he => Nat.le_trans (h.short es he) (by omega), fun es he m hm => (lf_marks (h.lf es he) m hm).1, fun es he m hm => Int.le_trans (lf_marks (h.lf es he) m hm).2 (by omega), fun es he => lf_late (h.lf es he) fun r hr => (h.drawn r (rows_mem he hr)).t0, h.drawn⟩
theorem rowsOf_end : ∀ es : List EntT, rowsOf (es ++ [.mark 1000000000]) = rowsOf es
  | [] => rfl
  | .mark m :: es => rowsOf_end es
  | .row r :: es => by
    show r :: rowsOf (es ++ [.mark 1000000000]) = r :: rowsOf es
    rw [rowsOf_end es]
theorem R_end : ∀ ps : List (List EntT), R (endP ps) = R ps
  | [] => rfl
  | es :: ps => by
    show rowsOf (es ++ [.mark 1000000000]) ++ R (endP ps) = rowsOf es ++ R ps
    rw [rowsOf_end, R_end ps]
theorem marks_end' (es : List EntT) : marksIn (es ++ [.mark 1000000000]) = marksIn es ++ [1000000000] := by
  unfold marksIn
  rw [List.filter_append, List.map_append]
  rfl
theorem late_end : ∀ {es : List EntT} {k : Int}, LateFree es k → LateFree (es ++ [.mark 1000000000]) k
  | [], k, _ => True.intro
  | .mark m :: es, k, h => late_end (es := es) h
  | .row r :: es, k, h => ⟨h.1, late_end (es := es) h.2⟩
theorem Gd.last {parts : List (List EntT)} (h : Gd parts) (hs : ∀ es ∈ parts, es.length ≤ 900) : Gd (endP parts) := by
  refine ⟨?_, fun es he => ?_, fun es he m hm => ?_, fun es he m hm => ?_, fun es he => ?_, fun r hr => ?_⟩
  · unfold endP
    rw [List.length_map]
    exact h.few
  · obtain ⟨fs, hf, rfl⟩ := List.mem_map.mp he
    have := hs fs hf
    rw [List.length_append, List.length_singleton]
    omega
  · obtain ⟨fs, hf, rfl⟩ := List.mem_map.mp he
    rw [marks_end'] at hm
    rcases List.mem_append.mp hm with hm | hm
    · exact h.pos fs hf m hm
    · rw [List.mem_singleton.mp hm]
      omega
  · obtain ⟨fs, hf, rfl⟩ := List.mem_map.mp he
    rw [marks_end'] at hm
    rcases List.mem_append.mp hm with hm | hm
    · exact h.top fs hf m hm
    · rw [List.mem_singleton.mp hm]
      omega
  · obtain ⟨fs, hf, rfl⟩ := List.mem_map.mp he
    exact late_end (h.late fs hf)
  · rw [R_end] at hr
    exact h.drawn r hr
theorem maxI_top : ∀ (l : List Int) (m : Int), m ≤ 1000000000 → (∀ x ∈ l, x ≤ 1000000000) → maxI m (l ++ [1000000000]) = 1000000000
  | [], m, h, _ => by
    show (if (1000000000 : Int) > m then (1000000000 : Int) else m) = _
    split <;> omega
  | x :: l, m, h, hl => by
    rw [List.cons_append, maxI]
    refine maxI_top l _ ?_ fun y hy => hl y (List.mem_cons_of_mem _ hy)
    split
    · exact hl x List.mem_cons_self
    · exact h
theorem minI_same : ∀ (l : List Int) (m : Int), (∀ x ∈ l, x = m) → minI m l = m
  | [], m, _ => rfl
  | x :: l, m, h => by
    rw [minI, h x List.mem_cons_self, if_neg (by omega)]
    exact minI_same l m fun y hy => h y (List.mem_cons_of_mem _ hy)
theorem markL_end {parts : List (List EntT)} (h : Gd parts) : markL (endP parts) = 1000000000 := by
  have one : ∀ es ∈ parts, markP (es ++ [.mark 1000000000]) = 1000000000 := fun es he => by
    unfold markP
    rw [marks_end']
    exact maxI_top _ _ (by omega) (h.top es he)
  cases parts with
  | nil => rfl
  | cons es ps =>
    show minI (markP (es ++ [.mark 1000000000])) ((endP ps).map markP) = _
    rw [one es List.mem_cons_self]
    refine minI_same _ _ fun x hx => ?_
    obtain ⟨fs, hf, rfl⟩ := List.mem_map.mp hx
    obtain ⟨gs, hg, rfl⟩ := List.mem_map.mp hf
    exact one gs (List.mem_cons_of_mem _ hg)
theorem mkMin_end {px py : List (List EntT)} (hx : Gd px) (hy : Gd py) : mkMin (endP px) (endP py) = 1000000000 := by
  unfold mkMin
  rw [markL_end hx, markL_end hy]
  rfl
end Dl
end
section
set_option Elab.async false
set_option linter.all false
set_option autoImplicit false
set_option maxRecDepth 100000
set_option maxHeartbeats 1000000
/-! R7: the law's lap: what is drawn. -/
namespace Dl
open PySem
def vF (S : Src) (s2 s3 s4 s5 s6 s7 s8 s9 s10 s11 s12 s13 s16 s17 : Sl) : DEnv := ⟨[.un, .src, s2, s3, s4, s5, s6, s7, s8, s9, s10, s11, s12, s13, .un, .un, s16, s17, .un], some S⟩
abbrev vE (S : Src) (s2 s3 s4 s5 s6 s7 s8 s9 s10 s11 s12 s13 : Sl) : DEnv := vF S s2 s3 s4 s5 s6 s7 s8 s9 s10 s11 s12 s13 .un .un
variable {s2 s3 s4 s5 s6 s7 s8 s9 s10 s11 s12 s13 s16 s17 : Sl} {hows : List Str} {b : Bool} {size : Int}
/-! ### words -/
def wordsD (hows : List Str) : PyData := .tuple (hows.map .str)
def wordsG : G := sSetV 7 (vD (e1 tupD (eFz (lComp (iDat (eVar 6)) [14, 15] (aTup [aName, aName]) [14, 15] (tYes) (eVar 14)))))
theorem words_turn {S : Src} (hl : hows.length ≤ 100) : wordsG (vE S s2 s3 s4 s5 (.dat (.list (hows.map hwD))) s7 s8 s9 s10 s11 s12 s13) = some (.next, vE S s2 s3 s4 s5 (.dat (.list (hows.map hwD))) (.dat (wordsD hows)) s8 s9 s10 s11 s12 s13) := by
  have cm : lComp (iDat (eVar 6)) [14, 15] (aTup [aName, aName]) [14, 15] (tYes) (eVar 14) (vE S s2 s3 s4 s5 (.dat (.list (hows.map hwD))) s7 s8 s9 s10 s11 s12 s13) = some (hows.map .str, vE S s2 s3 s4 s5 (.dat (.list (hows.map hwD))) s7 s8 s9 s10 s11 s12 s13) :=
    comp_all (e := hwD) PyData.str rfl (small_of (by omega)) fun h _ => ⟨[.str h, .int 1], rfl, rfl⟩
  exact setVC (vDC (e1C (fzC cm) rfl))
def fitG : G := sIf (tOr (tB (e2 opIsNot (eCall m_can_part (aCons (eVar 7) (aNil))) (eC (.bool true)))) (tB (e2 opNe (eCall m_second_hows (aCons (eVar 7) (aNil))) (e2 opMul (eTup (aCons (eC (.str "sum")) (aNil))) (e1 lenD (eVar 6)))))) (sRet (eC (.bool false))) (sNext)
theorem can_ok (H : HowsOk hows) : m_can_part [wordsD hows] = some (.bool true) := by
  rcases H with ⟨h, rfl, i⟩ | ⟨h, g, rfl, i, j⟩
  · rcases i with rfl | rfl <;> kernel_rfl
  · rcases i with rfl | rfl <;> rcases j with rfl | rfl <;> kernel_rfl
theorem second_ok (H : HowsOk hows) : ∃ d, m_second_hows [wordsD hows] = some d ∧ opMul (.tuple [.str "sum"]) (.int (hows.length : Nat)) = some d ∧ opNe d d = some (.bool false) := by
  rcases H with ⟨h, rfl, i⟩ | ⟨h, g, rfl, i, j⟩
  · exact ⟨.tuple [.str "sum"], by kernel_rfl, by kernel_rfl, by kernel_rfl⟩
  · exact ⟨.tuple [.str "sum", .str "sum"], by kernel_rfl, by kernel_rfl, by kernel_rfl⟩
theorem fit_turn {S : Src} (H : HowsOk hows) : fitG (vE S s2 s3 s4 s5 (.dat (.list (hows.map hwD))) (.dat (wordsD hows)) s8 s9 s10 s11 s12 s13) = some (.next, vE S s2 s3 s4 s5 (.dat (.list (hows.map hwD))) (.dat (wordsD hows)) s8 s9 s10 s11 s12 s13) := by
  obtain ⟨d, e1', e2', e3'⟩ := second_ok H
  have e4 : lenD (.list (hows.map hwD)) = some (.int (hows.length : Nat)) := by
    show some (PyData.int ((hows.map hwD).length : Nat)) = _
    rw [List.length_map]
  exact ifF (orF (tbC (e2C (x := .bool true) (y := .bool true) (callC (aC (x := wordsD hows) rfl aN) (can_ok H)) rfl rfl)) (tbC (e2C (x := d) (y := d) (callC (aC (x := wordsD hows) rfl aN) e1') (e2C (x := .tuple [.str "sum"]) (y := .int (hows.length : Nat)) (tupC (aC (x := .str "sum") rfl aN) rfl) (e1C (x := .list (hows.map hwD)) rfl e4) e2') e3'))) rfl
/-! ### rows -/
def rowE : M PyData := eCallS 1 m_law_draw_rows (aCons (eCallS 1 m_law_pick (aCons (eC (.int 6)) (aNil))) (aCons (eC (.int 0)) (aNil)))
theorem row_one (S : Src) {sl : List Sl} (hs : sl[1]? = some .src) : ∃ (rows : List Rw) (S' : Src), rowE ⟨sl, some S⟩ = some (.list (rows.map encR), ⟨sl, some S'⟩) ∧ (∀ r ∈ rows, Drawn r) ∧ rows.length ≤ 10 := by
  obtain ⟨k, S1, b1, b2, e1⟩ := pickC (i := 1) (a := eC (.int 6)) (sl := sl) (S := S) (S1 := S) (sl1 := sl) (most := 6) hs rfl (by decide) (by decide)
  obtain ⟨rows, S2, e2, hd, hl⟩ := rows_ok S1 (k := k) b1 (by omega)
  exact ⟨rows, S2, callSC (xs := [.int k, .int 0]) (by unfold isS; rw [hs]) (aC e1 (aC (x := .int 0) rfl aN)) e2, hd, hl⟩
def rowsD (r0 r1 r2 : List Rw) : List PyData := [.list (r0.map encR), .list (r1.map encR), .list (r2.map encR)]
def rowsG : G := sSetV 8 (vD (eFz (lComp (iRange (eC (.int 3))) [16] (aName) [16] (tYes) rowE)))
theorem rows_turn (S : Src) : ∃ (r0 r1 r2 : List Rw) (S' : Src), (∀ r ∈ r0 ++ r1 ++ r2, Drawn r) ∧ r0.length ≤ 10 ∧ r1.length ≤ 10 ∧ r2.length ≤ 10 ∧ rowsG (vE S s2 s3 s4 s5 s6 s7 s8 s9 s10 s11 s12 s13) = some (.next, vE S' s2 s3 s4 s5 s6 s7 (.dat (.list (rowsD r0 r1 r2))) s9 s10 s11 s12 s13) := by
  obtain ⟨r0, S1, e0, d0, l0⟩ := row_one S (sl := (vF S s2 s3 s4 s5 s6 s7 s8 s9 s10 s11 s12 s13 (.dat (.int 0)) .un).sl) rfl
  obtain ⟨r1, S2, e1, d1, l1⟩ := row_one S1 (sl := (vF S s2 s3 s4 s5 s6 s7 s8 s9 s10 s11 s12 s13 (.dat (.int 1)) .un).sl) rfl
  obtain ⟨r2, S3, e2, d2, l2⟩ := row_one S2 (sl := (vF S s2 s3 s4 s5 s6 s7 s8 s9 s10 s11 s12 s13 (.dat (.int 2)) .un).sl) rfl
  refine ⟨r0, r1, r2, S3, fun r hr => ?_, l0, l1, l2, ?_⟩
  · rcases List.mem_append.mp hr with hr | hr
    · rcases List.mem_append.mp hr with hr | hr
      · exact d0 r hr
      · exact d1 r hr
    · exact d2 r hr
  · have go : lcGo [16] aName [16] tYes rowE [.int 0, .int 1, .int 2] [] (vE S s2 s3 s4 s5 s6 s7 s8 s9 s10 s11 s12 s13) = some (rowsD r0 r1 r2, vF S3 s2 s3 s4 s5 s6 s7 s8 s9 s10 s11 s12 s13 (.dat (.int 2)) .un) :=
      lcStep (ys := [.int 0]) rfl e0 (lcStep (ys := [.int 1]) rfl e1 (lcStep (ys := [.int 2]) rfl e2 rfl))
    have it : iRange (eC (.int 3)) (vE S s2 s3 s4 s5 s6 s7 s8 s9 s10 s11 s12 s13) = some ([.int 0, .int 1, .int 2], vE S s2 s3 s4 s5 s6 s7 s8 s9 s10 s11 s12 s13) := by kernel_rfl
    have cm := compS it rfl rfl go
    exact setVC (vDC (fzC cm)) rfl
/-! ### entries -/
def entE : M PyData := eCallS 1 m_law_draw_entries (aCons (eVar 17) (aNil))
theorem ent_one (S : Src) {sl : List Sl} {rows : List Rw} (hs : sl[1]? = some .src) (h17 : sl[17]? = some (.dat (.list (rows.map encR)))) (hd : ∀ r ∈ rows, Drawn r) (hl : rows.length ≤ 10) : ∃ (es : List EntT) (S' : Src), entE ⟨sl, some S⟩ = some (.tuple (es.map encE), ⟨sl, some S'⟩) ∧ (rowsOf es).Perm rows ∧ LF es ∧ es.length ≤ 20 := by
  obtain ⟨es, S1, p, lf, el, e⟩ := entries_ok S hd (by omega)
  refine ⟨es, S1, callSC (xs := [.list (rows.map encR)]) (by unfold isS; rw [hs]) (aC (x := .list (rows.map encR)) ?_ aN) e, p, lf, by omega⟩
  unfold eVar
  show (sl[17]?).bind _ = _
  rw [h17]
  rfl
def entsD (e0 e1 e2 : List EntT) : List PyData := [.tuple (e0.map encE), .tuple (e1.map encE), .tuple (e2.map encE)]
def entsG : G := sSetV 9 (vD (eFz (lComp (iDat (eVar 8)) [17] (aName) [17] (tYes) entE)))
theorem ents_turn (S : Src) {r0 r1 r2 : List Rw} (hd : ∀ r ∈ r0 ++ r1 ++ r2, Drawn r) (l0 : r0.length ≤ 10) (l1 : r1.length ≤ 10) (l2 : r2.length ≤ 10) : ∃ (e0 e1 e2 : List EntT) (S' : Src), (rowsOf e0).Perm r0 ∧ (rowsOf e1).Perm r1 ∧ (rowsOf e2).Perm r2 ∧ (∀ es ∈ [e0, e1, e2], LF es ∧ es.length ≤ 20) ∧ entsG (vE S s2 s3 s4 s5 s6 s7 (.dat (.list (rowsD r0 r1 r2))) s9 s10 s11 s12 s13) = some (.next, vE S' s2 s3 s4 s5 s6 s7 (.dat (.list (rowsD r0 r1 r2))) (.dat (.list (entsD e0 e1 e2))) s10 s11 s12 s13) := by
  obtain ⟨e0, S1, f0, p0, g0, k0⟩ := ent_one S (rows := r0) (sl := (vF S s2 s3 s4 s5 s6 s7 (.dat (.list (rowsD r0 r1 r2))) s9 s10 s11 s12 s13 .un (.dat (.list (r0.map encR)))).sl) rfl rfl (fun r hr => hd r (List.mem_append_left _ (List.mem_append_left _ hr))) l0
  obtain ⟨e1, S2, f1, p1, g1, k1⟩ := ent_one S1 (rows := r1) (sl := (vF S s2 s3 s4 s5 s6 s7 (.dat (.list (rowsD r0 r1 r2))) s9 s10 s11 s12 s13 .un (.dat (.list (r1.map encR)))).sl) rfl rfl (fun r hr => hd r (List.mem_append_left _ (List.mem_append_right _ hr))) l1
  obtain ⟨e2, S3, f2, p2, g2, k2⟩ := ent_one S2 (rows := r2) (sl := (vF S s2 s3 s4 s5 s6 s7 (.dat (.list (rowsD r0 r1 r2))) s9 s10 s11 s12 s13 .un (.dat (.list (r2.map encR)))).sl) rfl rfl (fun r hr => hd r (List.mem_append_right _ hr)) l2
  refine ⟨e0, e1, e2, S3, p0, p1, p2, fun es he => ?_, ?_⟩
  · simp only [List.mem_cons, List.not_mem_nil, or_false] at he
    rcases he with rfl | rfl | rfl
    · exact ⟨g0, k0⟩
    · exact ⟨g1, k1⟩
    · exact ⟨g2, k2⟩
  · have go : lcGo [17] aName [17] tYes entE (rowsD r0 r1 r2) [] (vE S s2 s3 s4 s5 s6 s7 (.dat (.list (rowsD r0 r1 r2))) s9 s10 s11 s12 s13) = some (entsD e0 e1 e2, vF S3 s2 s3 s4 s5 s6 s7 (.dat (.list (rowsD r0 r1 r2))) s9 s10 s11 s12 s13 .un (.dat (.list (r2.map encR)))) :=
      lcStep (ys := [.list (r0.map encR)]) rfl f0 (lcStep (ys := [.list (r1.map encR)]) rfl f1 (lcStep (ys := [.list (r2.map encR)]) rfl f2 rfl))
    have cm := compS (it := iDat (eVar 8)) (ds := rowsD r0 r1 r2) (ρ := vE S s2 s3 s4 s5 s6 s7 (.dat (.list (rowsD r0 r1 r2))) s9 s10 s11 s12 s13) rfl rfl rfl go
    exact setVC (vDC (fzC cm)) rfl
end Dl
end
section
set_option Elab.async false
set_option linter.all false
set_option autoImplicit false
set_option maxRecDepth 100000
set_option maxHeartbeats 1000000
/-! R8: the law's lap: what is asked. -/
namespace Dl
open PySem
variable {s2 s3 s4 s5 s6 s7 s8 s9 s10 s11 s12 s13 s16 s17 : Sl} {hows : List Str} {b : Bool} {size mk : Int} {S : Src}
def ltoldG : G := sSetV 10 (vD (eDisp [("x", eTup (aCons (e2 ixD (eVar 9) (eC (.int 0))) (aCons (e2 ixD (eVar 9) (eC (.int 1))) (aNil)))), ("y", eTup (aCons (e2 ixD (eVar 9) (eC (.int 2))) (aNil)))]))
theorem told_turn {e0 e1 e2 : List EntT} : ltoldG (vE S s2 s3 s4 s5 s6 s7 s8 (.dat (.list (entsD e0 e1 e2))) s10 s11 s12 s13) = some (.next, vE S s2 s3 s4 s5 s6 s7 s8 (.dat (.list (entsD e0 e1 e2))) (.dat (toldD [e0, e1] [e2])) s11 s12 s13) := by kernel_rfl
def markE : M PyData := e2 min2 (eCall m_law_mark_of (aCons (e2 ixD (eVar 10) (eC (.str "x"))) (aNil))) (eCall m_law_mark_of (aCons (e2 ixD (eVar 10) (eC (.str "y"))) (aNil)))
def everyE : M PyData := eFz (lAdd (eFz (lAdd (e2 ixD (eVar 8) (eC (.int 0))) (e2 ixD (eVar 8) (eC (.int 1))))) (e2 ixD (eVar 8) (eC (.int 2))))
def parG : G := sPar 11 12 (vD markE) (vD everyE)
theorem par_turn {px py : List (List EntT)} {r0 r1 r2 : List Rw} (hx : Gd px) (hy : Gd py) (nx : px ≠ []) (ny : py ≠ []) (hl : r0.length + r1.length + r2.length ≤ 100) : parG (vE S s2 s3 s4 s5 s6 s7 (.dat (.list (rowsD r0 r1 r2))) s9 (.dat (toldD px py)) s11 s12 s13) = some (.next, vE S s2 s3 s4 s5 s6 s7 (.dat (.list (rowsD r0 r1 r2))) s9 (.dat (toldD px py)) (.dat (.int (mkMin px py))) (.dat (.list ((r0 ++ r1 ++ r2).map encR))) s13) := by
  have mo : ∀ ps : List (List EntT), Gd ps → ps ≠ [] → m_law_mark_of [partsD ps] = some (.int (markL ps)) := fun ps h hn => by
    cases ps with
    | nil => exact absurd rfl hn
    | cons es qs =>
      refine m_lmark_eq (by have := h.few; rw [List.length_cons] at this; omega) fun p hp => ⟨h.short p hp, ?_⟩
      exact maxI_le _ _ (by omega) (h.top p hp)
  refine parC (ρ1 := vE S s2 s3 s4 s5 s6 s7 (.dat (.list (rowsD r0 r1 r2))) s9 (.dat (toldD px py)) s11 s12 s13) (ρ2 := vE S s2 s3 s4 s5 s6 s7 (.dat (.list (rowsD r0 r1 r2))) s9 (.dat (toldD px py)) s11 s12 s13) (vDC (e2C (x := .int (markL px)) (y := .int (markL py)) (callC (aC (e2C (x := toldD px py) (y := .str "x") rfl rfl told_x) aN) (mo px hx nx)) (callC (aC (e2C (x := toldD px py) (y := .str "y") rfl rfl told_y) aN) (mo py hy ny)) rfl)) (vDC (fzC ?_))
  rw [List.map_append, List.map_append]
  exact addC (fzC (addC (xs := r0.map encR) (ys := r1.map encR) (e2C (x := .list (rowsD r0 r1 r2)) (y := .int 0) rfl rfl rfl) (e2C (x := .list (rowsD r0 r1 r2)) (y := .int 1) rfl rfl rfl) (small_of (by rw [List.length_map, List.length_map]; omega)))) (e2C (x := .list (rowsD r0 r1 r2)) (y := .int 2) rfl rfl rfl) (small_of (by rw [List.length_append, List.length_map, List.length_map, List.length_map]; omega))
def dueG (m : M PyData) : G := sSetV 13 (vD (eCall m_law_bag (aCons (eCall m_law_sum_rows (aCons (eVar 12) (aCons (eFz (lRep (lDisp (aCons (eC (.int 0)) (aNil))) (e1 lenD (eVar 4)))) (aCons (eVar 5) (aCons (eVar 6) (aCons m (aNil))))))) (aNil))))
theorem due_turn {m : M PyData} {rs : List Rw} (H : HowsOk hows) (hs : 1 ≤ size) (hd : ∀ r ∈ rs, Drawn r) (hl : rs.length ≤ 100) (hm : m (vE S s2 s3 (.dat (keysB b)) (.dat (winD size)) (.dat (.list (hows.map hwD))) s7 s8 s9 s10 s11 (.dat (.list (rs.map encR))) s13) = some (.int mk, vE S s2 s3 (.dat (keysB b)) (.dat (winD size)) (.dat (.list (hows.map hwD))) s7 s8 s9 s10 s11 (.dat (.list (rs.map encR))) s13)) : ∃ out : List Rw, out.Perm (flat (κB b) size mk (spsOnce hows) (lift rs)) ∧ dueG m (vE S s2 s3 (.dat (keysB b)) (.dat (winD size)) (.dat (.list (hows.map hwD))) s7 s8 s9 s10 s11 (.dat (.list (rs.map encR))) s13) = some (.next, vE S s2 s3 (.dat (keysB b)) (.dat (winD size)) (.dat (.list (hows.map hwD))) s7 s8 s9 s10 s11 (.dat (.list (rs.map encR))) (.dat (bagOf (out.map kR)))) := by
  obtain ⟨out, p, e⟩ := m_lsum_eq (b := b) (mk := mk) hs (sps_once H) (once_len H).1 hd hl
  refine ⟨out, p, ?_⟩
  have ro : ∀ r ∈ out, RwOk r := fun r hr => out_ok (flat_out (p.mem_iff.mp hr)) (once_len H).1
  have ol : out.length ≤ 1000 := by
    have h1 := p.length_eq
    have h2 := flat_len (κ := κB b) (size := size) (mk := mk) (sps := spsOnce hows) (xs := lift rs)
    have h3 : (lift rs).length = rs.length := by unfold lift; rw [List.length_map]
    omega
  have bg := (bag_rows ro ol).2
  have rep : lRep (lDisp (aCons (eC (.int 0)) (aNil))) (e1 lenD (eVar 4)) (vE S s2 s3 (.dat (keysB b)) (.dat (winD size)) (.dat (.list (hows.map hwD))) s7 s8 s9 s10 s11 (.dat (.list (rs.map encR))) s13) = some (List.replicate (klB b) (.int 0), vE S s2 s3 (.dat (keysB b)) (.dat (winD size)) (.dat (.list (hows.map hwD))) s7 s8 s9 s10 s11 (.dat (.list (rs.map encR))) s13) := by cases b <;> rfl
  generalize hhw : hows.map hwD = hw at e hm rep ⊢
  generalize hrs : rs.map encR = rl at e hm rep ⊢
  generalize bagOf (out.map kR) = bg' at bg ⊢
  generalize out.map encR = ol' at e bg
  exact setVC (vDC (callC (aC (callC (aC (x := .list rl) rfl (aC (fzC rep) (aC (x := winD size) rfl (aC (x := .list hw) rfl (aC hm aN))))) e) aN) bg)) rfl
def askG : G := sIf (tB (e2 opNe (eFz (lComp (iDat (eVar 3)) [18] (aName) [18] (tYes) (e2 ixD (eCall m_marks_of (aCons (eVar 18) (aCons (eVar 10) (aNil)))) (eC (.str "s"))))) (eFz (lDisp (aCons (eVar 11) (aCons (eVar 11) (aNil))))))) (sRet (eC (.bool false))) (sNext)
theorem ne_self2 (i : Int) : opNe (.list [.int i, .int i]) (.list [.int i, .int i]) = some (.bool false) := by
  show ((if (shal 0 && shal 0) = true then some (decide ([NestedKey.num i, .num i] = [NestedKey.num i, .num i])) else none).bind fun b => some (PyData.bool (!b))) = _
  rw [decide_eq_true rfl]
  rfl
theorem ask_turn {Q1 Q2 told : PyData} {m1 m2 : List (Str × PyData)} (h1 : m_marks_of [Q1, told] = some (kvD m1)) (h2 : m_marks_of [Q2, told] = some (kvD m2)) (g1 : ixD (kvD m1) (.str "s") = some (.int mk)) (g2 : ixD (kvD m2) (.str "s") = some (.int mk)) : askG (vE S s2 (.dat (.list [Q1, Q2])) s4 s5 s6 s7 s8 s9 (.dat told) (.dat (.int mk)) s12 s13) = some (.next, vE S s2 (.dat (.list [Q1, Q2])) s4 s5 s6 s7 s8 s9 (.dat told) (.dat (.int mk)) s12 s13) := by
  have cm : lComp (iDat (eVar 3)) [18] (aName) [18] (tYes) (e2 ixD (eCall m_marks_of (aCons (eVar 18) (aCons (eVar 10) (aNil)))) (eC (.str "s"))) (vE S s2 (.dat (.list [Q1, Q2])) s4 s5 s6 s7 s8 s9 (.dat told) (.dat (.int mk)) s12 s13) = some ([Q1, Q2].map fun _ => .int mk, vE S s2 (.dat (.list [Q1, Q2])) s4 s5 s6 s7 s8 s9 (.dat told) (.dat (.int mk)) s12 s13) := by
    refine comp_all (e := id) (fun _ => .int mk) (xs := [Q1, Q2]) rfl rfl fun q hq => ⟨[q], rfl, ?_⟩
    rcases List.mem_cons.mp hq with rfl | hq
    · exact e2C (x := kvD m1) (y := .str "s") (callC (aC (x := q) rfl (aC (x := told) rfl aN)) h1) rfl g1
    · cases List.mem_singleton.mp hq
      exact e2C (x := kvD m2) (y := .str "s") (callC (aC (x := Q2) rfl (aC (x := told) rfl aN)) h2) rfl g2
  exact ifF (tbC (e2C (x := .list [.int mk, .int mk]) (y := .list [.int mk, .int mk]) (fzC cm) (fzC (dispC (aC (x := .int mk) rfl (aC (x := .int mk) rfl aN)) rfl)) (ne_self2 mk))) rfl
def bagG' (m : List PyData → Option PyData) : G := sIf (tB (e2 neBags (eFz (lComp (iDat (eVar 3)) [18] (aName) [18] (tYes) (eCall m (aCons (eVar 18) (aCons (eVar 10) (aNil)))))) (eFz (lDisp (aCons (eVar 13) (aCons (eVar 13) (aNil))))))) (sRet (eC (.bool false))) (sNext)
theorem bags_turn {m : List PyData → Option PyData} {Q1 Q2 told : PyData} {o1 o2 out : List Rw} (h1 : m [Q1, told] = some (bagOf (o1.map kR))) (h2 : m [Q2, told] = some (bagOf (o2.map kR))) (p1 : o1.Perm out) (p2 : o2.Perm out) : bagG' m (vE S s2 (.dat (.list [Q1, Q2])) s4 s5 s6 s7 s8 s9 (.dat told) s11 s12 (.dat (bagOf (out.map kR)))) = some (.next, vE S s2 (.dat (.list [Q1, Q2])) s4 s5 s6 s7 s8 s9 (.dat told) s11 s12 (.dat (bagOf (out.map kR)))) := by
  obtain ⟨a1, c1, x1, y1, z1⟩ := same_rows p1
  obtain ⟨a2, c2, x2, y2, z2⟩ := same_rows p2
  rw [x1] at h1
  rw [x2] at h2
  have cc : c1 = c2 := by
    rw [y1] at y2
    injection y2
  subst cc
  rw [y1]
  have hit : iDat (eVar 3) (vE S s2 (.dat (.list [Q1, Q2])) s4 s5 s6 s7 s8 s9 (.dat told) s11 s12 (.dat (.dict c1))) = some ([Q1, Q2], vE S s2 (.dat (.list [Q1, Q2])) s4 s5 s6 s7 s8 s9 (.dat told) s11 s12 (.dat (.dict c1))) := rfl
  have cm : lComp (iDat (eVar 3)) [18] (aName) [18] (tYes) (eCall m (aCons (eVar 18) (aCons (eVar 10) (aNil)))) (vE S s2 (.dat (.list [Q1, Q2])) s4 s5 s6 s7 s8 s9 (.dat told) s11 s12 (.dat (.dict c1))) = some ([Q1, Q2].map fun q => (m [q, told]).getD .none, vE S s2 (.dat (.list [Q1, Q2])) s4 s5 s6 s7 s8 s9 (.dat told) s11 s12 (.dat (.dict c1))) := by
    refine comp_all (e := id) (fun q => (m [q, told]).getD .none) (xs := [Q1, Q2]) hit rfl fun q hq => ⟨[q], rfl, ?_⟩
    rcases List.mem_cons.mp hq with rfl | hq
    · rw [h1]
      exact callC (aC (x := q) rfl (aC (x := told) rfl aN)) h1
    · cases List.mem_singleton.mp hq
      rw [h2]
      exact callC (aC (x := Q2) rfl (aC (x := told) rfl aN)) h2
  have ee : ([Q1, Q2].map fun q => (m [q, told]).getD .none) = [.dict a1, .dict a2] := by
    show [(m [Q1, told]).getD .none, (m [Q2, told]).getD .none] = _
    rw [h1, h2]
    rfl
  rw [ee] at cm
  refine ifF (tbC (e2C (x := .list [.dict a1, .dict a2]) (y := .list [.dict c1, .dict c1]) (fzC cm) (fzC (dispC (aC (x := .dict c1) rfl (aC (x := .dict c1) rfl aN)) rfl)) ?_)) rfl
  show (if (sameBag a1 c1 && sameBag a2 c1) = true then some (PyData.bool false) else none) = _
  rw [z1, z2]
  rfl
end Dl
end
section
set_option Elab.async false
set_option linter.all false
set_option autoImplicit false
set_option maxRecDepth 100000
set_option maxHeartbeats 1000000
/-! Plain: the plain law. -/
namespace Dl
open PySem
variable {hows : List Str} {b : Bool} {size : Int}
theorem R_two (e0 e1 : List EntT) : R [e0, e1] = rowsOf e0 ++ rowsOf e1 := by
  unfold R
  rw [List.flatMap_cons, List.flatMap_cons, List.flatMap_nil, List.append_nil]
theorem R_one (e : List EntT) : R [e] = rowsOf e := by
  unfold R
  rw [List.flatMap_cons, List.flatMap_nil, List.append_nil]
/-- both queries mean what the law's own sums tell -/
theorem both_mean {px py : List (List EntT)} {rs out : List Rw} (H : HowsOk hows) (hs : 1 ≤ size) (hs2 : size ≤ 9) (hx : Gd px) (hy : Gd py) (pr : (R px ++ R py).Perm rs) (hl : rs.length ≤ 50) (po : out.Perm (flat (κB b) size (mkMin px py) (spsOnce hows) (lift rs))) : ∃ o1 o2 : List Rw, m_meaning [onceQ hows b size, toldD px py] = some (bagOf (o1.map kR)) ∧ m_meaning [twiceQ hows b size, toldD px py] = some (bagOf (o2.map kR)) ∧ o1.Perm out ∧ o2.Perm out := by
  have ln := pr.length_eq
  rw [List.length_append] at ln
  obtain ⟨y1, e1, p1⟩ := once_rows (b := b) H hs hs2 hx hy (by omega)
  obtain ⟨y2, e2, p2⟩ := twice_rows (b := b) H hs hs2 hx hy (by omega)
  have ll : (lift (R px ++ R py)).length ≤ 1000 := by unfold lift; rw [List.length_map, List.length_append]; omega
  obtain ⟨k1, n1⟩ := perm_ok p1 (once_len H).1
  obtain ⟨k2, n2⟩ := perm_ok p2 (once_len H).1
  have pf : (flat (κB b) size (mkMin px py) (spsOnce hows) (lift (R px ++ R py))).Perm (flat (κB b) size (mkMin px py) (spsOnce hows) (lift rs)) := flat_perm (by rw [lift_fst, lift_fst]; exact pr)
  exact ⟨y1.map (·.1), y2.map (·.1), meaning_of e1 k1 (by omega), meaning_of e2 k2 (by omega), (p1.trans pf).trans po.symm, (p2.trans pf).trans po.symm⟩
def lapG : G := sSeq (sSet [3, 4, 5, 6] (aTup [aName, aName, aName, aName]) (eCallS 1 m_law_draw_queries (aNil)))
    (sSeq wordsG (sSeq fitG (sSeq rowsG (sSeq entsG (sSeq ltoldG (sSeq parG (sSeq (dueG (eVar 11)) (sSeq askG (sSeq (bagG' m_meaning) (sSeq (dueG (e2 opPow (eC (.int 10)) (eC (.int 9)))) (bagG' m_whole)))))))))))
theorem lap_ok (S : Src) (s2 s3 s4 s5 s6 s7 s8 s9 s10 s11 s12 s13 : Sl) : ∃ (S' : Src) (t3 t4 t5 t6 t7 t8 t9 t10 t11 t12 t13 : Sl), lapG (vE S s2 s3 s4 s5 s6 s7 s8 s9 s10 s11 s12 s13) = some (.next, vE S' s2 t3 t4 t5 t6 t7 t8 t9 t10 t11 t12 t13) := by
  obtain ⟨hows, b, size, S1, H, z1, z2, q1⟩ := queries_ok S
  have hl : hows.length ≤ 100 := by rcases H with ⟨h, rfl, _⟩ | ⟨h, g, rfl, _, _⟩ <;> simp
  have st1 : sSet [3, 4, 5, 6] (aTup [aName, aName, aName, aName]) (eCallS 1 m_law_draw_queries (aNil)) (vE S s2 s3 s4 s5 s6 s7 s8 s9 s10 s11 s12 s13) = some (.next, vE S1 s2 (.dat (.list [onceQ hows b size, twiceQ hows b size])) (.dat (keysB b)) (.dat (winD size)) (.dat (.list (hows.map hwD))) s7 s8 s9 s10 s11 s12 s13) :=
    setC (xs := [.list [onceQ hows b size, twiceQ hows b size], keysB b, winD size, .list (hows.map hwD)]) (callSC (xs := []) rfl rfl q1) rfl
  have st2 := words_turn (S := S1) (s2 := s2) (s3 := .dat (.list [onceQ hows b size, twiceQ hows b size])) (s4 := .dat (keysB b)) (s5 := .dat (winD size)) (s7 := s7) (s8 := s8) (s9 := s9) (s10 := s10) (s11 := s11) (s12 := s12) (s13 := s13) hl
  have st3 := fit_turn (S := S1) (s2 := s2) (s3 := .dat (.list [onceQ hows b size, twiceQ hows b size])) (s4 := .dat (keysB b)) (s5 := .dat (winD size)) (s8 := s8) (s9 := s9) (s10 := s10) (s11 := s11) (s12 := s12) (s13 := s13) H
  obtain ⟨r0, r1, r2, S2, hd, l0, l1, l2, st4⟩ := rows_turn (s2 := s2) (s3 := .dat (.list [onceQ hows b size, twiceQ hows b size])) (s4 := .dat (keysB b)) (s5 := .dat (winD size)) (s6 := .dat (.list (hows.map hwD))) (s7 := .dat (wordsD hows)) (s8 := s8) (s9 := s9) (s10 := s10) (s11 := s11) (s12 := s12) (s13 := s13) S1
  obtain ⟨e0, e1, e2, S3, p0, p1, p2, he, st5⟩ := ents_turn (s2 := s2) (s3 := .dat (.list [onceQ hows b size, twiceQ hows b size])) (s4 := .dat (keysB b)) (s5 := .dat (winD size)) (s6 := .dat (.list (hows.map hwD))) (s7 := .dat (wordsD hows)) (s9 := s9) (s10 := s10) (s11 := s11) (s12 := s12) (s13 := s13) S2 hd l0 l1 l2
  have st6 := told_turn (S := S3) (s2 := s2) (s3 := .dat (.list [onceQ hows b size, twiceQ hows b size])) (s4 := .dat (keysB b)) (s5 := .dat (winD size)) (s6 := .dat (.list (hows.map hwD))) (s7 := .dat (wordsD hows)) (s8 := .dat (.list (rowsD r0 r1 r2))) (s10 := s10) (s11 := s11) (s12 := s12) (s13 := s13) (e0 := e0) (e1 := e1) (e2 := e2)
  have pr : (R [e0, e1] ++ R [e2]).Perm (r0 ++ r1 ++ r2) := by
    rw [R_two, R_one]
    exact (p0.append p1).append p2
  have dx : Dp [e0, e1] := by
    refine ⟨by simp, by simp, fun es h => ?_, fun es h => ?_, fun r h => hd r (pr.mem_iff.mp (List.mem_append_left _ h))⟩
    · simp only [List.mem_cons, List.not_mem_nil, or_false] at h
      have := (he es (by rcases h with rfl | rfl <;> simp)).2
      omega
    · simp only [List.mem_cons, List.not_mem_nil, or_false] at h
      exact (he es (by rcases h with rfl | rfl <;> simp)).1
  have dy : Dp [e2] := by
    refine ⟨by simp, by simp, fun es h => ?_, fun es h => ?_, fun r h => hd r (pr.mem_iff.mp (List.mem_append_right _ h))⟩
    · rw [List.mem_singleton.mp h]
      have := (he e2 (by simp)).2
      omega
    · rw [List.mem_singleton.mp h]
      exact (he e2 (by simp)).1
  generalize [e0, e1] = px at dx pr st6
  generalize [e2] = py at dy pr st6
  have gx := dx.gd
  have gy := dy.gd
  have rl : (r0 ++ r1 ++ r2).length ≤ 50 := by rw [List.length_append, List.length_append]; omega
  have st7 := par_turn (S := S3) (s2 := s2) (s3 := .dat (.list [onceQ hows b size, twiceQ hows b size])) (s4 := .dat (keysB b)) (s5 := .dat (winD size)) (s6 := .dat (.list (hows.map hwD))) (s7 := .dat (wordsD hows)) (s9 := .dat (.list (entsD e0 e1 e2))) (s11 := s11) (s12 := s12) (s13 := s13) (r0 := r0) (r1 := r1) (r2 := r2) gx gy dx.some dy.some (by omega)
  obtain ⟨out, po, st8⟩ := due_turn (S := S3) (s2 := s2) (s3 := .dat (.list [onceQ hows b size, twiceQ hows b size])) (s7 := .dat (wordsD hows)) (s8 := .dat (.list (rowsD r0 r1 r2))) (s9 := .dat (.list (entsD e0 e1 e2))) (s10 := .dat (toldD px py)) (s11 := .dat (.int (mkMin px py))) (s13 := s13) (b := b) (size := size) (mk := mkMin px py) (m := eVar 11) (rs := r0 ++ r1 ++ r2) H z1 hd (by omega) rfl
  have st9 := ask_turn (S := S3) (s2 := s2) (s4 := .dat (keysB b)) (s5 := .dat (winD size)) (s6 := .dat (.list (hows.map hwD))) (s7 := .dat (wordsD hows)) (s8 := .dat (.list (rowsD r0 r1 r2))) (s9 := .dat (.list (entsD e0 e1 e2))) (s12 := .dat (.list ((r0 ++ r1 ++ r2).map encR))) (s13 := .dat (bagOf (out.map kR))) (mk := mkMin px py) (o_marks (hows := hows) (b := b) (size := size) gx.ok gy.ok) (t_marks (hows := hows) (b := b) (size := size) gx.ok gy.ok) (by kernel_rfl) (by kernel_rfl)
  obtain ⟨o1, o2, m1, m2, c1, c2⟩ := both_mean (b := b) H z1 z2 gx gy pr rl po
  have st10 := bags_turn (S := S3) (s2 := s2) (s4 := .dat (keysB b)) (s5 := .dat (winD size)) (s6 := .dat (.list (hows.map hwD))) (s7 := .dat (wordsD hows)) (s8 := .dat (.list (rowsD r0 r1 r2))) (s9 := .dat (.list (entsD e0 e1 e2))) (s11 := .dat (.int (mkMin px py))) (s12 := .dat (.list ((r0 ++ r1 ++ r2).map encR))) m1 m2 c1 c2
  have gx' := gx.last dx.short
  have gy' := gy.last dy.short
  obtain ⟨outE, poE, st11⟩ := due_turn (S := S3) (s2 := s2) (s3 := .dat (.list [onceQ hows b size, twiceQ hows b size])) (s7 := .dat (wordsD hows)) (s8 := .dat (.list (rowsD r0 r1 r2))) (s9 := .dat (.list (entsD e0 e1 e2))) (s10 := .dat (toldD px py)) (s11 := .dat (.int (mkMin px py))) (s13 := .dat (bagOf (out.map kR))) (b := b) (size := size) (mk := 1000000000) (m := Dl.e2 opPow (eC (.int 10)) (eC (.int 9))) (rs := r0 ++ r1 ++ r2) H z1 hd (by omega) (e2C (x := .int 10) (y := .int 9) rfl rfl (by rfl))
  obtain ⟨q1', q2', w1, w2, g1, g2⟩ := both_mean (b := b) (px := endP px) (py := endP py) (out := outE) H z1 z2 gx' gy' (by rw [R_end, R_end]; exact pr) rl (by rw [mkMin_end gx gy]; exact poE)
  have st12 := bags_turn (S := S3) (s2 := s2) (s4 := .dat (keysB b)) (s5 := .dat (winD size)) (s6 := .dat (.list (hows.map hwD))) (s7 := .dat (wordsD hows)) (s8 := .dat (.list (rowsD r0 r1 r2))) (s9 := .dat (.list (entsD e0 e1 e2))) (s11 := .dat (.int (mkMin px py))) (s12 := .dat (.list ((r0 ++ r1 ++ r2).map encR))) (whole_of dx.few dy.few dx.short dy.short w1) (whole_of dx.few dy.few dx.short dy.short w2) g1 g2
  exact ⟨_, _, _, _, _, _, _, _, _, _, _, _, seqN st1 (seqN st2 (seqN st3 (seqN st4 (seqN st5 (seqN st6 (seqN st7 (seqN st8 (seqN st9 (seqN st10 (seqN st11 st12))))))))))⟩
theorem plain (ns : List Int) (hn : ns.length ≤ 63) : m_law ns = some (.bool true) := by
  obtain ⟨S1, t3, t4, t5, t6, t7, t8, t9, t10, t11, t12, t13, l1⟩ := lap_ok (openS ns) (.dat (.int 0)) .un .un .un .un .un .un .un .un .un .un .un
  obtain ⟨S2, u3, u4, u5, u6, u7, u8, u9, u10, u11, u12, u13, l2⟩ := lap_ok S1 (.dat (.int 1)) t3 t4 t5 t6 t7 t8 t9 t10 t11 t12 t13
  have e1' : m_can_part [.tuple [.str "count", .str "least"]] = some (.bool false) := by kernel_rfl
  have e2' : m_can_part [.tuple [.str "greatest"]] = some (.bool false) := by kernel_rfl
  have fin : eAnd (e2 opIs (eCall m_can_part (aCons (eTup (aCons (eC (.str "count")) (aCons (eC (.str "least")) (aNil)))) (aNil))) (eC (.bool false))) (e2 opIs (eCall m_can_part (aCons (eTup (aCons (eC (.str "greatest")) (aNil))) (aNil))) (eC (.bool false))) (vE S2 (.dat (.int 1)) u3 u4 u5 u6 u7 u8 u9 u10 u11 u12 u13) = some (.bool true, vE S2 (.dat (.int 1)) u3 u4 u5 u6 u7 u8 u9 u10 u11 u12 u13) := by
    have a1 : e2 opIs (eCall m_can_part (aCons (eTup (aCons (eC (.str "count")) (aCons (eC (.str "least")) (aNil)))) (aNil))) (eC (.bool false)) (vE S2 (.dat (.int 1)) u3 u4 u5 u6 u7 u8 u9 u10 u11 u12 u13) = some (.bool true, vE S2 (.dat (.int 1)) u3 u4 u5 u6 u7 u8 u9 u10 u11 u12 u13) := e2C (x := .bool false) (y := .bool false) (callC (aC (tupC (aC (x := .str "count") rfl (aC (x := .str "least") rfl aN)) rfl) aN) e1') rfl rfl
    have a2 : e2 opIs (eCall m_can_part (aCons (eTup (aCons (eC (.str "greatest")) (aNil))) (aNil))) (eC (.bool false)) (vE S2 (.dat (.int 1)) u3 u4 u5 u6 u7 u8 u9 u10 u11 u12 u13) = some (.bool true, vE S2 (.dat (.int 1)) u3 u4 u5 u6 u7 u8 u9 u10 u11 u12 u13) := e2C (x := .bool false) (y := .bool false) (callC (aC (tupC (aC (x := .str "greatest") rfl aN) rfl) aN) e2') rfl rfl
    unfold eAnd
    rw [a1]
    exact a2
  have it : iRange (eC (.int 2)) (lawE (openS ns)) = some ([.int 0, .int 1], lawE (openS ns)) := by kernel_rfl
  have lp : forGo [2] aName lapG [.int 0, .int 1] (lawE (openS ns)) = some (.next, vE S2 (.dat (.int 1)) u3 u4 u5 u6 u7 u8 u9 u10 u11 u12 u13) := forCons (xs := [.int 0]) rfl l1 (forCons (xs := [.int 1]) rfl l2 rfl)
  have g : g_law (lawE (openS ns)) = some (.ret (.bool true), vE S2 (.dat (.int 1)) u3 u4 u5 u6 u7 u8 u9 u10 u11 u12 u13) := seqN (forC it lp) (retC fin)
  unfold m_law
  rw [g]
  rfl
end Dl
end
set_option Elab.async false
set_option linter.all false
open PySem PySem.W PyProof.Rows
set_option maxRecDepth 100000 in
set_option maxHeartbeats 0 in
theorem PySem.Challenge.cw_oncestream_k66_whole_sums_in_two_steps_holds : PySem.Challenge.rw_oncestream_k66_whole_sums_in_two_steps.Holds := by
  w_on; o_law; k_head; (case hw => w_witness2)
  k_fill
  refine Dl.walk_endX (l := PySem.Challenge.rw_oncestream_k66_whole_sums_in_two_steps) (n := 63) (k := 11) (x := "_law_script") rfl (by decide) rfl ⟨rfl, by decide, by decide⟩ (fun w h Y => PySem.W.km_in_of Y) ?F
  case F =>
    intro w mg fa h Y XPh X G hmg
    have he : ∃ t, mg ("END" : Str) = some (.int 1000000000 t) := by
      obtain ⟨v, e1, e2⟩ := XPh.2.val (("END" : Str), .int 1000000000) List.mem_cons_self
      cases e2 with
      | int i t => exact ⟨t, e1⟩
    refine' Dl.all_law (Pt := 224) X G hmg Dl.plain (PySem.W.km_tabs_of Y 224 (by decide)) ?fb he ?_ ?_ ?_ ?_ ?_ ?_ ?_ ?_ ?_ ?_ ?_ ?_ ?_ ?_ ?_ ?_ ?_ ?_ ?_ ?_ ?_ ?_ ?_ ?_ ?_ ?_ ?_ ?_ ?_ ?_ ?_ ?_ ?_ ?_ ?_ ?_ ?_ ?_ ?_ ?_ ?_ ?_ ?_ ?_ ?_ ?_ ?_
    case fb =>
      unfold Dl.FreeB
      repeat (refine List.forall_mem_cons.mpr ⟨by k_is, ?_⟩)
      exact fun _ h => nomatch h
    all_goals first
      | (refine' Dl.has_mk ?a1 ?a2 ?a3 ?a4; (case a1 => k_is); (case a2 => k_is); (case a3 => k_is); (case a4 => k_is))
      | (refine' Dl.hasT_mk ?a1 ?a2 ?a3 ?a4 ?a5 ?a6; (case a1 => k_is); (case a2 => k_is); (case a3 => k_is); (case a4 => k_is); (case a5 => first | kernel_rfl | rfl | trace_state); (case a6 => first | kernel_rfl | rfl | trace_state))
