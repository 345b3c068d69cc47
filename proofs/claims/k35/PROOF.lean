import PyProof.Rows.All
import Wide.All
import OpenK.AllK
import Wide.FinOn
import KE.KStateDown
import KE.SortData
import KE.DataMinMax
import KE.DataFind
import KE.KDictSum
import HandS.ExcValue
import KE.GoesEnum
import PyProof.CollectIter
import Lean
import HandS.Base
import HandS.Call
import HandS.List
import HandS.Dict
import HandS.Iter
import HandS.Comp
import HandS.DictComp
import HandS.Conv
import HandS.SetFor
import HandS.SortKw
import HandS.WideBits
import HandS.CallRecv
import HandS.MakeKwOnly
import HandS.Ends
import HandS.More
import HandS.NoneIn
import HandS.Words
import HandS.WordsExc
import HandS.WordsDict
import HandS.IsInst
import HandS.TupAny
import HandS.TupLe
import HandS.Wide
import HandS.Style
import HandS.Defaults
import HandS.Head0
import HandS.Head1
import HandS.Head2
import HandS.HeadEnd
import HandS.HeadHook1
import HandS.HeadHook2
import HandS.ExcOwn
import HandS.Lambda
import HandS.HeadHook4
import HandS.Flow
import HandS.Strs
import HandS.TupSets
import KE.KRevSl
import KE.SortKeyHeap
import KE.KSortKey
import KE.KDictPairs
import KE.KDictWalk
import PySem.Challenge.RW_heapwright_k35_whole_what_soft_heaps_giv
set_option Elab.async false
set_option linter.all false
set_option maxRecDepth 100000
set_option maxHeartbeats 8000000
set_option exponentiation.threshold 5000
namespace Mn
open PySem
inductive D where
  | non | bl (b : Bool) | int (i : Int) | str (x : Str) | tup (l : List D) | fl (l : List D) | ref (n : Nat)
abbrev Key := Sum Int Str
inductive Ob where
  | lst (l : List D) | dct (l : List (Key × D)) | fdct (l : List (Key × D)) | dtp (l : List (List Key × D)) | fdi (l : List ((Int × Int) × Int)) | ins (c : Nat) (fs : List (Str × D))
abbrev Store := List Ob
abbrev Env := List (Option D)
abbrev DK := D → Store → Prop
abbrev XK := Nat → Store → Prop
def noX : XK := fun _ _ => False
abbrev lim : Nat := 1000000
def D.scal : D → Bool
  | .non => true | .bl _ => true | .int _ => true | .str _ => true | _ => false
def D.sEq : D → D → Bool
  | .non, .non => true
  | .bl a, .bl b => a == b
  | .bl a, .int b => (if a then 1 else 0) == b
  | .int a, .bl b => a == (if b then 1 else 0)
  | .int a, .int b => a == b
  | .str a, .str b => a == b
  | _, _ => false
def lst? (S : Store) (n : Nat) : Option (List D) := match S[n]? with
  | some (.lst l) => some l
  | _ => none
def lq? (S : Store) : D → Option (List D)
  | .fl l => some l
  | .ref n => lst? S n
  | _ => none
def seq? (S : Store) : D → Option (List D)
  | .tup l => some l
  | d => lq? S d
mutual
inductive Snap (S : Store) : D → PyData → Prop
  | non : Snap S .non .none
  | bl (b : Bool) : Snap S (.bl b) (.bool b)
  | int (i : Int) : Snap S (.int i) (.int i)
  | str (x : Str) : Snap S (.str x) (.str x)
  | tup {ds : List D} {ps : List PyData} : Snaps S ds ps → Snap S (.tup ds) (.tuple ps)
  | lst {d : D} {ds : List D} {ps : List PyData} : lq? S d = some ds → Snaps S ds ps → Snap S d (.list ps)
inductive Snaps (S : Store) : List D → List PyData → Prop
  | nil : Snaps S [] []
  | cons {d : D} {ds : List D} {p : PyData} {ps : List PyData} : Snap S d p → Snaps S ds ps → Snaps S (d :: ds) (p :: ps)
end
mutual
def D.py : D → PyData
  | .non => .none
  | .bl b => .bool b
  | .int i => .int i
  | .str x => .str x
  | .tup l => .tuple (pys l)
  | .fl _ => .none
  | .ref _ => .none
def pys : List D → List PyData
  | [] => []
  | d :: r => d.py :: pys r
end
mutual
def D.pur : D → Bool
  | .tup l => purs l
  | .fl _ => false
  | .ref _ => false
  | _ => true
def purs : List D → Bool
  | [] => true
  | d :: r => d.pur && purs r
end
def sortD (l : List D) : List D := l.mergeSort (PySem.W.dataLe false D.py)
def minL (x : D) (l : List D) : D := l.foldl (fun a y => if PySem.W.dataLt y.py a.py then y else a) x
def maxL (x : D) (l : List D) : D := l.foldl (fun a y => if PySem.W.dataLt a.py y.py then y else a) x
def OrdOk (l : List D) : Prop := purs l = true ∧ PySem.W.AllAlike (pys l) ∧ PySem.W.Sortable (pys l) ∧ ∀ p ∈ pys l, p.depth ≤ 60
def cEq (x y : D) (S : Store) (K : Bool → Prop) : Prop :=
  match x.scal && y.scal with
  | true => K (x.sEq y)
  | false => ∃ p q, Snap S x p ∧ Snap S y q ∧ p.canLay0 = true ∧ q.canLay0 = true ∧ min p.depth q.depth ≤ 650 ∧ K (PyData.eqv p q)
def ints? : List D → Option (List Int)
  | [] => some []
  | .int i :: r => (ints? r).map (i :: ·)
  | _ => none
def keyOf : D → Option Key
  | .int i => some (.inl i)
  | .str x => some (.inr x)
  | _ => none
def dGet (kvs : List (Key × D)) (k : Key) : Option D := (kvs.find? fun kv => decide (kv.1 = k)).map (·.2)
def dPut (kvs : List (Key × D)) (k : Key) (v : D) : List (Key × D) :=
  if (kvs.any fun kv => decide (kv.1 = k)) = true then kvs.map (fun kv => if kv.1 = k then (kv.1, v) else kv) else kvs ++ [(k, v)]
def dDrop (kvs : List (Key × D)) (k : Key) : List (Key × D) := kvs.filter fun kv => decide (kv.1 ≠ k)
def keyD : Key → D
  | .inl i => .int i
  | .inr x => .str x
def dct? (S : Store) : D → Option (List (Key × D))
  | .ref n => (match S[n]? with | some (.dct l) => some l | _ => none)
  | _ => none
def dctr? (S : Store) : D → Option (List (Key × D))
  | .ref n => (match S[n]? with | some (.dct l) => some l | some (.fdct l) => some l | _ => none)
  | _ => none
def cIs (x y : D) (K : Bool → Prop) : Prop := match y with
  | .non => K (match x with | .non => true | _ => false)
  | .bl b => (match x with | .bl a => K (decide (a = b)) | _ => False)
  | _ => False
def strIn (x y : Str) : Bool := !(Builtin.Str.occurrences y x 0 y.length 1).isEmpty
def strInD (x y : D) (K : Bool → Prop) : Prop := match x, y with
  | .str i, .str j => K (strIn i j)
  | _, _ => False
def cIn (x y : D) (S : Store) (K : Bool → Prop) : Prop := match seq? S y with
  | some l => x.scal = true ∧ l.all D.scal = true ∧ K (l.any fun z => z.sEq x)
  | none => (match dctr? S y, keyOf x with
    | some kvs, some k => K (dGet kvs k).isSome
    | _, _ => strInD x y K)
def cLe (x y : D) (K : Bool → Prop) : Prop := match x, y with
  | .int i, .int j => K (decide (i ≤ j))
  | _, _ => False
def cGt (x y : D) (K : Bool → Prop) : Prop := match x, y with
  | .int i, .int j => K (decide (j < i))
  | .tup a, .tup b => (match ints? a, ints? b with | some i, some j => K (HT.lexLt j i) | _, _ => False)
  | _, _ => False
def cGe (x y : D) (K : Bool → Prop) : Prop := match x, y with
  | .int i, .int j => K (decide (j ≤ i))
  | _, _ => False
def cLt (x y : D) (K : Bool → Prop) : Prop := match x, y with
  | .int i, .int j => K (decide (i < j))
  | .tup a, .tup b => (match ints? a, ints? b with | some i, some j => K (HT.lexLt i j) | _, _ => False)
  | _, _ => False
def cmpB (op : CmpOp) (x y : D) (S : Store) (K : Bool → Prop) : Prop := match op with
  | .Eq => cEq x y S K
  | .NotEq => cEq x y S fun b => K (!b)
  | .Lt => cLt x y K
  | .LtE => cLe x y K
  | .Gt => cGt x y K
  | .GtE => cGe x y K
  | .Is => cIs x y K
  | .IsNot => cIs x y fun b => K (!b)
  | .In => cIn x y S K
  | .NotIn => cIn x y S fun b => K (!b)
def bAdd (x y : D) (S : Store) (Q : DK) : Prop := match x, y with
  | .int i, .int j => Q (.int (i + j)) S
  | .int i, .bl j => Q (.int (i + if j then 1 else 0)) S
  | .tup a, .tup b => a.length + b.length ≤ lim ∧ Q (.tup (a ++ b)) S
  | .str a, .str b => a.length + b.length ≤ lim ∧ Q (.str (a ++ b)) S
  | a, b => (match lq? S a, lq? S b with
    | some l, some m => l.length + m.length ≤ lim ∧ Q (.ref S.length) (S ++ [.lst (l ++ m)])
    | _, _ => False)
def Sm (i : Int) : Prop := i.natAbs < 2 ^ 4000
def bMul (x y : D) (S : Store) (Q : DK) : Prop := match x, y with
  | .int i, .int j => Sm i ∧ Sm j ∧ Q (.int (i * j)) S
  | .ref a, .int k => (match lst? S a with
    | some l => 0 ≤ k ∧ k ≤ 1000000 ∧ l.length * k.toNat ≤ lim ∧ Q (.ref S.length) (S ++ [.lst (List.replicate k.toNat l).flatten])
    | _ => False)
  | _, _ => False
def bSub (x y : D) (S : Store) (Q : DK) : Prop := match x, y with
  | .int i, .int j => Q (.int (i - j)) S
  | _, _ => False
def bDiv (x y : D) (S : Store) (Q : DK) : Prop := match x, y with
  | .int i, .int j => 0 < j ∧ Sm j ∧ Q (.int (i / j)) S
  | _, _ => False
def bMod (x y : D) (S : Store) (Q : DK) : Prop := match x, y with
  | .int i, .int j => 0 < j ∧ Q (.int (i % j)) S
  | _, _ => False
def bPow (x y : D) (S : Store) (Q : DK) : Prop := match x, y with
  | .int i, .int j => 0 ≤ j ∧ j ≤ 1000 ∧ Sm i ∧ Q (.int (i ^ j.toNat)) S
  | _, _ => False
def bShl (x y : D) (S : Store) (Q : DK) : Prop := match x, y with
  | .int i, .int j => L2.CPow i j ∧ Q (.int (i * 2 ^ j.toNat)) S
  | _, _ => False
def bShr (x y : D) (S : Store) (Q : DK) : Prop := match x, y with
  | .int i, .int j => 0 ≤ j ∧ Q (.int (i / 2 ^ j.toNat)) S
  | _, _ => False
def bop (op : Operator) (x y : D) (S : Store) (Q : DK) : Prop := match op with
  | .Add => bAdd x y S Q
  | .Sub => bSub x y S Q
  | .Mult => bMul x y S Q
  | .FloorDiv => bDiv x y S Q
  | .Mod => bMod x y S Q
  | .Pow => bPow x y S Q
  | .LShift => bShl x y S Q
  | .RShift => bShr x y S Q
  | _ => False
inductive Ty where
  | int | bool | str | tuple | list | tl
  deriving DecidableEq
def isL (S : Store) : D → Option Bool
  | .fl _ => some true
  | .ref n => (lst? S n).map fun _ => true
  | _ => some false
def isTy (S : Store) (x : D) : Ty → Option Bool
  | .int => (match x with | .int _ => some true | .bl _ => some true | x => (isL S x).map fun _ => false)
  | .bool => (match x with | .bl _ => some true | x => (isL S x).map fun _ => false)
  | .str => (match x with | .str _ => some true | x => (isL S x).map fun _ => false)
  | .tuple => (match x with | .tup _ => some true | x => (isL S x).map fun _ => false)
  | .list => isL S x
  | .tl => (match x with | .tup _ => some true | x => isL S x)
def imax (i j : Int) : Int := if j > i then j else i
def imin (i j : Int) : Int := if j < i then j else i
inductive Bt where
  | len | isi (t : Ty) | max2 | min2 | list1 | tuple1 | sorted1 | min1 | max1 | maxd | sum1 | any1 | all1 | int1 | dict1 | lrng | abs1 | mind | lset | sset
  deriving DecidableEq
inductive Bm where
  | append | pop | popAt | insert | remove | index | get1 | get2 | dpop | bitlen | remd
  deriving DecidableEq
def bls? : List D → Option (List Bool)
  | [] => some []
  | .bl b :: r => (bls? r).map (b :: ·)
  | _ => none
def len? (S : Store) : D → Option Nat
  | .tup l => some l.length
  | .str x => some x.length
  | .fl l => some l.length
  | .ref n => (match S[n]? with
    | some (.lst l) => some l.length
    | some (.dct l) => some l.length
    | some (.fdct l) => some l.length
    | _ => none)
  | _ => none
def bLen (ds : List D) (S : Store) (Q : DK) : Prop := match ds with
  | [x] => (match len? S x with | some n => n ≤ lim ∧ Q (.int n) S | none => False)
  | _ => False
def bIsi (t : Ty) (ds : List D) (S : Store) (Q : DK) : Prop := match ds with
  | [x] => (match isTy S x t with | some k => Q (.bl k) S | none => False)
  | _ => False
def b2I (f : Int → Int → Int) (ds : List D) (S : Store) (Q : DK) : Prop := match ds with
  | [.int i, .int j] => Q (.int (f i j)) S
  | _ => False
def bList (ds : List D) (S : Store) (Q : DK) : Prop := match ds with
  | [x] => (match seq? S x with
    | some l => Q (.ref S.length) (S ++ [.lst l])
    | none => (match dct? S x with
      | some kvs => Q (.ref S.length) (S ++ [.lst (kvs.map fun kv => keyD kv.1)])
      | none => False))
  | _ => False
def bTuple (ds : List D) (S : Store) (Q : DK) : Prop := match ds with
  | [x] => (match seq? S x with
    | some l => Q (.tup l) S
    | none => False)
  | _ => False
def bSorted (ds : List D) (S : Store) (Q : DK) : Prop := match ds with
  | [x] => (match lq? S x with
    | some l => OrdOk l ∧ Q (.ref S.length) (S ++ [.lst (sortD l)])
    | none => (match dctr? S x with
      | some kvs => OrdOk (kvs.map fun kv => keyD kv.1) ∧ Q (.ref S.length) (S ++ [.lst (sortD (kvs.map fun kv => keyD kv.1))])
      | none => (match x with
        | .tup l => OrdOk l ∧ Q (.ref S.length) (S ++ [.lst (sortD l)])
        | _ => False)))
  | _ => False
def bBest (f : D → List D → D) (ds : List D) (S : Store) (Q : DK) : Prop := match ds with
  | [x] => (match lq? S x with
    | some (d :: l) => OrdOk (d :: l) ∧ Q (f d l) S
    | _ => False)
  | _ => False
def bMaxd (ds : List D) (S : Store) (Q : DK) : Prop := match ds with
  | [x, e] => (match lq? S x with
    | some [] => Q e S
    | some (d :: l) => OrdOk (d :: l) ∧ Q (maxL d l) S
    | none => False)
  | _ => False
def bMind (ds : List D) (S : Store) (Q : DK) : Prop := match ds with
  | [x, e] => (match lq? S x with
    | some [] => Q e S
    | some (d :: l) => OrdOk (d :: l) ∧ Q (minL d l) S
    | none => False)
  | _ => False
def bAbs (ds : List D) (S : Store) (Q : DK) : Prop := match ds with
  | [.int i] => Q (.int (if i < 0 then -i else i)) S
  | _ => False
def bSum (ds : List D) (S : Store) (Q : DK) : Prop := match ds with
  | [x] => (match (lq? S x).bind ints? with
    | some l => Q (.int l.sum) S
    | none => False)
  | _ => False
def bAny (f : List Bool → Bool) (ds : List D) (S : Store) (Q : DK) : Prop := match ds with
  | [x] => (match (lq? S x).bind bls? with
    | some l => Q (.bl (f l)) S
    | none => False)
  | _ => False
def bInt (ds : List D) (S : Store) (Q : DK) : Prop := match ds with
  | [.int i] => Q (.int i) S
  | [.bl b] => Q (.int (if b then 1 else 0)) S
  | _ => False
def bDict (ds : List D) (S : Store) (Q : DK) : Prop := match ds with
  | [x] => (match dctr? S x with
    | some kvs => Q (.ref S.length) (S ++ [.dct kvs])
    | none => False)
  | _ => False
def itups? : List D → Option (List (List Int))
  | [] => some []
  | .tup l :: r => (match ints? l, itups? r with
    | some n, some m => some (n :: m)
    | _, _ => none)
  | _ :: _ => none
def hashT (k : List Int) : Int := reduceHash (Builtin.Tuple.tupleHashOf (k.map hashInt))
def fewT (l : List (List Int)) : Prop := l.length < 64 ∨ (l.length ≤ 300 ∧ (l.map hashT).Nodup)
def tupI (k : List Int) : D := .tup (k.map D.int)
def bLset (ds : List D) (S : Store) (Q : DK) : Prop := match ds with
  | [x] => (match (lq? S x).bind ints? with
    | some l => l.length ≤ 4000 ∧ ∀ ns : List Int, ns.Nodup → (∀ k, k ∈ ns ↔ k ∈ l) → Q (.int ns.length) S
    | none => (match (lq? S x).bind itups? with
      | some l => fewT l ∧ ∀ ns : List (List Int), ns.Nodup → (∀ k, k ∈ ns ↔ k ∈ l) → Q (.int ns.length) S
      | none => False))
  | _ => False
def bSset (ds : List D) (S : Store) (Q : DK) : Prop := match ds with
  | [x] => (match (lq? S x).bind ints? with
    | some l => l.length < 64 ∧ ∀ ns : List Int, ns.Pairwise (· < ·) → (∀ k, k ∈ ns ↔ k ∈ l) → Q (.ref S.length) (S ++ [.lst (ns.map D.int)])
    | none => (match (lq? S x).bind itups? with
      | some l => fewT l ∧ ∀ ns : List (List Int), ns.Nodup → (∀ k, k ∈ ns ↔ k ∈ l) → OrdOk (ns.map tupI) ∧ Q (.ref S.length) (S ++ [.lst (sortD (ns.map tupI))])
      | none => False))
  | _ => False
def rngL (a b : Int) : List D := (List.range (b - a).toNat).map fun (k : Nat) => D.int (a + k)
def bLrng (ds : List D) (S : Store) (Q : DK) : Prop := match ds with
  | [.int n] => n ≤ 1000000 ∧ -1000000 ≤ n ∧ Q (.ref S.length) (S ++ [.lst (rngL 0 n)])
  | _ => False
def bt (b : Bt) (ds : List D) (S : Store) (Q : DK) : Prop := match b with
  | .list1 => bList ds S Q
  | .tuple1 => bTuple ds S Q
  | .sorted1 => bSorted ds S Q
  | .min1 => bBest minL ds S Q
  | .max1 => bBest maxL ds S Q
  | .maxd => bMaxd ds S Q
  | .mind => bMind ds S Q
  | .abs1 => bAbs ds S Q
  | .sum1 => bSum ds S Q
  | .any1 => bAny (fun l => l.any id) ds S Q
  | .all1 => bAny (fun l => l.all id) ds S Q
  | .int1 => bInt ds S Q
  | .dict1 => bDict ds S Q
  | .lrng => bLrng ds S Q
  | .lset => bLset ds S Q
  | .sset => bSset ds S Q
  | .len => bLen ds S Q
  | .isi t => bIsi t ds S Q
  | .max2 => b2I imax ds S Q
  | .min2 => b2I imin ds S Q
def idx? (x : D) : List D → Option Nat
  | [] => none
  | y :: r => if y.sEq x = true then some 0 else (idx? x r).map (· + 1)
def mAppend (o : D) (ds : List D) (S : Store) (Q : DK) : Prop := match o, ds with
  | .ref n, [d] => (match S[n]? with
    | some (.lst l) => l.length < lim ∧ Q .non (S.set n (.lst (l ++ [d])))
    | _ => False)
  | _, _ => False
def mPop (o : D) (ds : List D) (S : Store) (Q : DK) : Prop := match o, ds with
  | .ref n, [] => (match S[n]? with
    | some (.lst l) => (match l.getLast? with | some d => Q d (S.set n (.lst l.dropLast)) | none => False)
    | _ => False)
  | _, _ => False
def mPopAt (o : D) (ds : List D) (S : Store) (Q : DK) : Prop := match o, ds with
  | .ref n, [.int i] => (match S[n]? with
    | some (.lst l) => (match L2.ixN l.length i with
      | some j => (match l[j]? with | some d => Q d (S.set n (.lst (l.eraseIdx j))) | none => False)
      | none => False)
    | _ => False)
  | _, _ => False
def mInsert (o : D) (ds : List D) (S : Store) (Q : DK) : Prop := match o, ds with
  | .ref n, [.int i, d] => (match S[n]? with
    | some (.lst l) => l.length < lim ∧ 0 ≤ i ∧ i ≤ 1000000 ∧ Q .non (S.set n (.lst (l.take i.toNat ++ [d] ++ l.drop i.toNat)))
    | _ => False)
  | _, _ => False
def mRemove (o : D) (ds : List D) (S : Store) (Q : DK) : Prop := match o, ds with
  | .ref n, [d] => (match S[n]? with
    | some (.lst l) => (match idx? d l with
      | some j => (ints? l).isSome = true ∧ (ints? [d]).isSome = true ∧ Q .non (S.set n (.lst (l.eraseIdx j)))
      | none => False)
    | _ => False)
  | _, _ => False
def DatOk (l : List D) : Prop := purs l = true ∧ PyData.depthAll (pys l) ≤ 100
def mRemd (o : D) (ds : List D) (S : Store) (Q : DK) : Prop := match o, ds with
  | .ref n, [d] => (match S[n]? with
    | some (.lst l) => (match (pys l).findIdx? (fun y => PyData.eqv y d.py) with
      | some j => DatOk l ∧ DatOk [d] ∧ Q .non (S.set n (.lst (l.eraseIdx j)))
      | none => False)
    | _ => False)
  | _, _ => False
def inD (x y : D) (S : Store) (K : Bool → Prop) : Prop := match seq? S y with
  | some l => (match x with
    | .non => ∃ ps, Snaps S l ps ∧ PyData.plainAll ps = true ∧ K (ps.any fun z => PyData.eqv z .none)
    | _ => DatOk l ∧ DatOk [x] ∧ K ((pys l).any fun z => PyData.eqv z x.py))
  | none => False
def mIndex (o : D) (ds : List D) (S : Store) (Q : DK) : Prop := match ds with
  | [d] => (match lq? S o with
    | some l => (match idx? d l with
      | some j => d.scal = true ∧ l.all D.scal = true ∧ Q (.int j) S
      | none => False)
    | none => False)
  | _ => False
def mGet (e : Option D) (o k : D) (S : Store) (Q : DK) : Prop := match dct? S o, keyOf k with
  | some kvs, some k => Q ((dGet kvs k).getD (e.getD .non)) S
  | _, _ => False
def mGet1 (o : D) (ds : List D) (S : Store) (Q : DK) : Prop := match ds with
  | [k] => mGet none o k S Q
  | _ => False
def mGet2 (o : D) (ds : List D) (S : Store) (Q : DK) : Prop := match ds with
  | [k, e] => mGet (some e) o k S Q
  | _ => False
def mDpop (o : D) (ds : List D) (S : Store) (Q : DK) : Prop := match o, ds with
  | .ref n, [k] => (match S[n]?, keyOf k with
    | some (.dct kvs), some k => (match dGet kvs k with | some v => Q v (S.set n (.dct (dDrop kvs k))) | none => False)
    | _, _ => False)
  | _, _ => False
def mBitlen (o : D) (ds : List D) (S : Store) (Q : DK) : Prop := match o, ds with
  | .int i, [] => Q (.int (Builtin.Int.intBits i : Nat)) S
  | _, _ => False
def bm (m : Bm) (o : D) (ds : List D) (S : Store) (Q : DK) : Prop := match m with
  | .append => mAppend o ds S Q
  | .pop => mPop o ds S Q
  | .popAt => mPopAt o ds S Q
  | .insert => mInsert o ds S Q
  | .remove => mRemove o ds S Q
  | .index => mIndex o ds S Q
  | .get1 => mGet1 o ds S Q
  | .get2 => mGet2 o ds S Q
  | .dpop => mDpop o ds S Q
  | .bitlen => mBitlen o ds S Q
  | .remd => mRemd o ds S Q
def ixS (x i : D) (S : Store) (Q : DK) : Prop := match x, i with
  | .str z, .int j => (match L2.atI z.cps.toList j with | some c => z.length ≤ lim ∧ Q (.str ⟨#[c]⟩) S | none => False)
  | _, _ => False
def ixD (x i : D) (S : Store) (Q : DK) : Prop := match seq? S x with
  | some l => (match i with
    | .int i => (match L2.atI l i with | some v => Q v S | none => False)
    | _ => False)
  | none => (match dctr? S x, keyOf i with
    | some kvs, some k => (match dGet kvs k with | some v => Q v S | none => False)
    | _, _ => ixS x i S Q)
def cut (l : List D) (lo hi : Option Int) : List D := (l.drop (HT.sIx l.length 0 lo)).take (HT.sIx l.length l.length hi - HT.sIx l.length 0 lo)
def slD (x : D) (a b : Option Int) (S : Store) (Q : DK) : Prop := match x with
  | .tup l => Q (.tup (cut l a b)) S
  | x => (match lq? S x with | some l => Q (.ref S.length) (S ++ [.lst (cut l a b)]) | none => False)
def klen (i : Int) : D → Option Nat
  | .tup l => (match L2.atI l i with | some (.tup m) => some m.length | _ => none)
  | _ => none
def klen0 (i : Int) (d : D) : Nat := (klen i d).getD 0
def sklL (i : Int) (l : List D) : List D := l.mergeSort fun a b => decide (klen0 i a ≤ klen0 i b)
def sklD (i : Int) (x : D) (S : Store) (Q : DK) : Prop := match lq? S x with
  | some l => (l.all fun d => (klen i d).isSome) = true ∧ Q (.ref S.length) (S ++ [.lst (sklL i l)])
  | none => False
mutual
inductive Tg where
  | nm (i : Nat) | tp (ts : Tgs)
inductive Tgs where
  | nil | cons (t : Tg) (ts : Tgs)
end
mutual
inductive E where
  | bad | no
  | v (i : Nat) | cst (d : D)
  | and (a b : E) | or (a b : E) | not (a : E) | ite (c a b : E)
  | bin (op : Operator) (a b : E) | neg (a : E)
  | cmp (op : CmpOp) (a b : E) | chn (op op2 : CmpOp) (a b c : E)
  | ix (a i : E) | sl (a lo hi : E) | rev (a : E) | skl (i : Int) (a : E)
  | tup (es : Es) | lst (es : Es) | dct (ks vs : Es)
  | call (f : Nat) (es : Es)
  | calld (f : Nat) (es : Es) (d : D)
  | callk (f : Nat) (es : Es) (k : E)
  | blt (b : Bt) (es : Es)
  | bm (m : Bm) (o : E) (es : Es)
  | attr (c : Nat) (o : E) (f : Str)
  | meth (c : Nat) (m : Str) (f : Nat) (o : E) (es : Es)
  | make (c f : Nat) (es : Es)
  | lc (own : List Nat) (t : Tg) (it : It) (c e : E)
  | lc2 (own : List Nat) (t : Tg) (it : It) (own1 : List Nat) (t1 : Tg) (it1 : It) (e : E)
  | dc (own : List Nat) (t : Tg) (it : It) (k e : E)
  | told (ws : List (Nat × Str)) (e : E)
  | dsp (ks : List (Sum Key Nat)) (vs : Es)
  | orv (a b : E) | ind (neg : Bool) (a b : E)
  | dctP | ixP (o a b : E) | inP (neg : Bool) (a b o : E)
  | dictF (e : E) | ixF (o k : E) | minF (o : E)
  | gix (g : Str) (kvs : List (Str × Int)) (i : E)
  | lk (e : E) | lenO (e : E) | nild (a b : E) | inR (neg : Bool) (x a b : E) | methk (c : Nat) (m : Str) (f : Nat) (o : E) (es : Es) (d : Option D) (ks : Es)
inductive Es where
  | nil | cons (e : E) (es : Es)
inductive It where
  | seq (e : E) | rng (a b : E) | rngd (a b : E) | rng2 (a b : E) | enum (e : E) | keys (e : E) | vals (e : E) | chars (e : E)
end
inductive Tm where
  | tg (t : Tg) | sub (o i : E) | att (c : Nat) (o : E) (f : Str)
def nilD (x y : D) (S : Store) (K : Bool → Prop) : Prop := match dctr? S x, dctr? S y with
  | some l, some [] => K l.isEmpty
  | _, _ => False
theorem nilD_mono {x y : D} {S : Store} {K K' : Bool → Prop} (h : ∀ b, K b → K' b) (q : nilD x y S K) : nilD x y S K' := by
  unfold nilD at q ⊢
  split at q
  · exact h _ q
  · exact q.elim
def lenOD (d : D) (Q : Int → Prop) : Prop := match d with
  | .int n => 0 ≤ n ∧ n < 2 ^ 63 ∧ Q n
  | _ => False
theorem lenOD_mono {d : D} {Q Q' : Int → Prop} (h : ∀ n, Q n → Q' n) (q : lenOD d Q) : lenOD d Q' := by
  unfold lenOD at q ⊢
  split at q
  · exact ⟨q.1, q.2.1, h _ q.2.2⟩
  · exact q.elim
def charsL (z : Str) : List D := z.cps.toList.map fun c => .str ⟨#[c]⟩
def optP : E → D → Option (Option Int)
  | .no, _ => some none
  | _, .int i => some (some i)
  | _, _ => none
mutual
inductive C where
  | bad
  | set (i : Nat) (e : E)
  | asg (t : Tg) (e : E)
  | asgm (ts : List Tm) (e : E)
  | par (i j : Nat) (a b : E)
  | star (i j : Nat) (e : E)
  | unp (i j : Nat) (e : E)
  | setIx (o i e : E)
  | setP (o a b e : E)
  | setA (c : Nat) (o : E) (f : Str) (e : E)
  | aug (i : Nat) (op : Operator) (e : E)
  | augA (c : Nat) (o : E) (f : Str) (op : Operator) (e : E)
  | augX (o i : E) (op : Operator) (e : E)
  | pass
  | raise (c : Nat)
  | ret (e : E)
  | ex (e : E)
  | cond (c : E) (a b : Cs)
  | whl (c : E) (b : Cs)
  | for_ (t : Tg) (it : It) (b : Cs)
inductive Cs where
  | nil | cons (c : C) (cs : Cs)
  /-- ds = [lambda: a]; ds.append(lambda: b); ds.append(lambda: c); for d in ds: t = told(d); body -/
  | doors (dl dr t : Nat) (ws : List (Nat × Str)) (e1 e2 e3 : E) (b r : Cs)
end
abbrev Sem := Nat → List D → Store → DK → XK → Prop
mutual
def Tg.bind : Tg → D → Env → Option Env
  | .nm i, d, ρ => some (ρ.set i (some d))
  | .tp ts, d, ρ => (match d with | .tup l => ts.bind l ρ | _ => none)
def Tgs.bind : Tgs → List D → Env → Option Env
  | .nil, l, ρ => (match l with | [] => some ρ | _ => none)
  | .cons t ts, l, ρ => (match l with
    | d :: r => (match t.bind d ρ with | some ρ1 => ts.bind r ρ1 | none => none)
    | [] => none)
end
def itSeq (x : D) (S : Store) (R : List D → (Store → Prop) → Prop) : Prop := match x with
  | .tup l => R l (fun _ => True)
  | .fl l => R l (fun _ => True)
  | .ref n => (match lst? S n with
    | some l => R l (fun S => lst? S n = some l)
    | none => False)
  | _ => False
def rngD (a b : Int) : List D := (List.range (a - b).toNat).map fun (k : Nat) => D.int (a - k)
def rng2L (a b : Int) : List D := (List.range ((b - a + 1) / 2).toNat).map fun (k : Nat) => D.int (a + 2 * k)
def enumFrom (k : Nat) : List D → List D
  | [] => []
  | d :: r => .tup [.int k, d] :: enumFrom (k + 1) r
def enumL (l : List D) : List D := enumFrom 0 l
def dLit : List D → List D → Option (List (Key × D))
  | [], [] => some []
  | x :: xs, y :: ys => (match keyOf x, dLit xs ys with
    | some k, some r => if (r.any fun kv => decide (kv.1 = k)) = true then none else some ((k, y) :: r)
    | _, _ => none)
  | _, _ => none
def keysAt (ρ : Env) : List (Sum Key Nat) → Option (List Key)
  | [] => some []
  | .inl k :: r => (keysAt ρ r).map (k :: ·)
  | .inr i :: r => (match ρ[i]? with
    | some (some d) => (match keyOf d with | some k => (keysAt ρ r).map (k :: ·) | none => none)
    | _ => none)
def pGet (kvs : List (List Key × D)) (k : List Key) : Option D := (kvs.find? fun kv => decide (kv.1 = k)).map (·.2)
def pPut (kvs : List (List Key × D)) (k : List Key) (v : D) : List (List Key × D) :=
  if (kvs.any fun kv => decide (kv.1 = k)) = true then kvs.map (fun kv => if kv.1 = k then (kv.1, v) else kv) else kvs ++ [(k, v)]
def dtp? (S : Store) : D → Option (Nat × List (List Key × D))
  | .ref n => (match S[n]? with | some (.dtp l) => some (n, l) | _ => none)
  | _ => none
def keys2 (a b : D) : Option (List Key) := match keyOf a, keyOf b with
  | some k, some j => some [k, j]
  | _, _ => none
def pIx (o a b : D) (S : Store) (Q : DK) : Prop := match dtp? S o, keys2 a b with
  | some p, some k => (match pGet p.2 k with | some v => Q v S | none => False)
  | _, _ => False
def pIn (a b o : D) (S : Store) (K : Bool → Prop) : Prop := match dtp? S o, keys2 a b with
  | some p, some k => K (pGet p.2 k).isSome
  | _, _ => False
def pSet (o a b v : D) (S : Store) (Q : Store → Prop) : Prop := match dtp? S o, keys2 a b with
  | some p, some k => p.2.length < lim ∧ Q (S.set p.1 (.dtp (pPut p.2 k v)))
  | _, _ => False
def frs? : List D → Option (List ((Int × Int) × Int))
  | [] => some []
  | .tup [.tup [.int a, .int b], .int k] :: r => (frs? r).map (((a, b), k) :: ·)
  | _ => none
def fdi? (S : Store) : D → Option (List ((Int × Int) × Int))
  | .ref n => (match S[n]? with | some (.fdi l) => some l | _ => none)
  | _ => none
def dictFD (x : D) (S : Store) (Q : DK) : Prop := match (lq? S x).bind frs? with
  | some l => (l.map (·.1)).Nodup ∧ l.length ≤ lim ∧ Q (.ref S.length) (S ++ [.fdi l])
  | none => False
def ixFD (o k : D) (S : Store) (Q : DK) : Prop := match fdi? S o, k with
  | some l, .tup [.int a, .int b] => (match l.lookup (a, b) with | some v => Q (.int v) S | none => False)
  | _, _ => False
def minFD (o : D) (S : Store) (Q : DK) : Prop := match fdi? S o with
  | some l => l ≠ [] ∧ ∀ m ∈ l.map (·.2), (∀ j ∈ l.map (·.2), m ≤ j) → Q (.int m) S
  | none => False
theorem dictFD_mono {x : D} {S : Store} {Q Q' : DK} (h : ∀ d S, Q d S → Q' d S) (q : dictFD x S Q) : dictFD x S Q' := by
  unfold dictFD at q ⊢
  split at q
  · exact ⟨q.1, q.2.1, h _ _ q.2.2⟩
  · exact q.elim
theorem ixFD_mono {x y : D} {S : Store} {Q Q' : DK} (h : ∀ d S, Q d S → Q' d S) (q : ixFD x y S Q) : ixFD x y S Q' := by
  unfold ixFD at q ⊢
  split at q
  · split at q
    · exact h _ _ q
    · exact q.elim
  · exact q.elim
theorem minFD_mono {x : D} {S : Store} {Q Q' : DK} (h : ∀ d S, Q d S → Q' d S) (q : minFD x S Q) : minFD x S Q' := by
  unfold minFD at q ⊢
  split at q
  · exact ⟨q.1, fun m hm hj => h _ _ (q.2 m hm hj)⟩
  · exact q.elim
def inRD (neg : Bool) (x y z : D) (S : Store) (Q : DK) : Prop := match x, y, z with
  | .int i, .int a, .int b => Q (.bl (if neg then !decide (a ≤ i ∧ i < b) else decide (a ≤ i ∧ i < b))) S
  | _, _, _ => False
def arrK (d : Option D) (zs : List D) : List D := match d, zs with
  | some d, [a, b] => [a, d, b]
  | _, zs => zs
def gixD (kvs : List (Str × Int)) (y : D) (S : Store) (Q : DK) : Prop := match y with
  | .str z => (match kvs.lookup z with | some n => Q (.int n) S | none => False)
  | _ => False
def mergeD : List (Key × D) → List (Key × D) → List (Key × D)
  | kvs, [] => kvs
  | kvs, p :: r => mergeD (dPut kvs p.1 p.2) r
def inst? (S : Store) : D → Option (Nat × List (Str × D))
  | .ref n => (match S[n]? with | some (.ins c fs) => some (c, fs) | _ => none)
  | _ => none
def recv (m : Bm) (x : D) (S : Store) : Bool := match m with
  | .get1 => (dct? S x).isSome
  | .get2 => (dct? S x).isSome
  | .dpop => (dct? S x).isSome
  | .bitlen => (match x with | .int _ => true | _ => false)
  | _ => (lq? S x).isSome
def wipeE (ρ : Env) : List Nat → Env
  | [] => ρ
  | v :: vs => (wipeE ρ vs).set v none
def wpLc (t : Tg) (G : Store → Prop) (c e : Env → Store → DK → Prop) (Q : Store → Prop) (n : Nat) (ρ : Env) : List D → List D → Store → Prop
  | [], _, S => G S ∧ Q S
  | d :: r, acc, S => G S ∧ (match t.bind d ρ with
    | some ρ1 => c ρ1 S fun x S1 => match x with
      | .bl true => e ρ1 S1 fun y S2 => S2[n]? = some (.lst acc) ∧ acc.length < lim ∧ wpLc t G c e Q n ρ r (acc ++ [y]) (S2.set n (.lst (acc ++ [y])))
      | .bl false => wpLc t G c e Q n ρ r acc S1
      | _ => False
    | none => False)
def wpLc1 (t1 : Tg) (G1 : Store → Prop) (e : Env → Store → DK → Prop) (n : Nat) (ρ : Env) (K : List D → Store → Prop) : List D → List D → Store → Prop
  | [], acc, S => G1 S ∧ K acc S
  | d :: r, acc, S => G1 S ∧ (match t1.bind d ρ with
    | some ρ1 => e ρ1 S fun y S2 => S2[n]? = some (.lst acc) ∧ acc.length < lim ∧ wpLc1 t1 G1 e n ρ K r (acc ++ [y]) (S2.set n (.lst (acc ++ [y])))
    | none => False)
def wpLc2 (t : Tg) (G : Store → Prop) (I1 : Env → Store → (List D → (Store → Prop) → Store → Prop) → Prop) (t1 : Tg) (own1 : List Nat) (e : Env → Store → DK → Prop) (Q : Store → Prop) (n : Nat) (ρ : Env) : List D → List D → Store → Prop
  | [], _, S => G S ∧ Q S
  | d :: r, acc, S => G S ∧ (match t.bind d ρ with
    | some ρ1 => I1 ρ1 S fun l1 G1 S1 => wpLc1 t1 G1 e n (wipeE ρ1 own1) (fun acc' S' => wpLc2 t G I1 t1 own1 e Q n ρ r acc' S') l1 acc S1
    | none => False)
def wpDc (t : Tg) (G : Store → Prop) (c e : Env → Store → DK → Prop) (Q : Store → Prop) (n : Nat) (ρ : Env) : List D → List (Key × D) → Store → Prop
  | [], _, S => G S ∧ Q S
  | d :: r, acc, S => G S ∧ (match t.bind d ρ with
    | some ρ1 => c ρ1 S fun x S1 => match keyOf x with
      | some k => e ρ1 S1 fun y S2 => S2[n]? = some (.dct acc) ∧ acc.length < lim ∧ wpDc t G c e Q n ρ r (dPut acc k y) (S2.set n (.dct (dPut acc k y)))
      | none => False
    | none => False)
mutual
def wpE (F : Sem) : E → Env → Store → DK → XK → Prop
  | .bad, _, _, _, _ => False
  | .no, _, S, Q, _ => Q .non S
  | .v i, ρ, S, Q, _ => (match ρ[i]? with | some (some d) => Q d S | _ => False)
  | .cst d, _, S, Q, _ => Q d S
  | .and a b, ρ, S, Q, X => wpE F a ρ S (fun x S1 => match x with | .bl true => wpE F b ρ S1 Q X | .bl false => Q (.bl false) S1 | _ => False) X
  | .or a b, ρ, S, Q, X => wpE F a ρ S (fun x S1 => match x with | .bl true => Q (.bl true) S1 | .bl false => wpE F b ρ S1 Q X | _ => False) X
  | .not a, ρ, S, Q, X => wpE F a ρ S (fun x S1 => match x with | .bl b => Q (.bl (!b)) S1 | _ => False) X
  | .ite c a b, ρ, S, Q, X => wpE F c ρ S (fun x S1 => match x with | .bl true => wpE F a ρ S1 Q X | .bl false => wpE F b ρ S1 Q X | _ => False) X
  | .bin op a b, ρ, S, Q, X => wpE F a ρ S (fun x S1 => wpE F b ρ S1 (fun y S2 => bop op x y S2 Q) X) X
  | .neg a, ρ, S, Q, X => wpE F a ρ S (fun x S1 => match x with | .int i => Q (.int (-i)) S1 | _ => False) X
  | .cmp op a b, ρ, S, Q, X => wpE F a ρ S (fun x S1 => wpE F b ρ S1 (fun y S2 => cmpB op x y S2 fun k => Q (.bl k) S2) X) X
  | .chn op op2 a b c, ρ, S, Q, X => wpE F a ρ S (fun x S1 => wpE F b ρ S1 (fun y S2 => cmpB op x y S2 fun k => match k with
      | true => wpE F c ρ S2 (fun z S3 => cmpB op2 y z S3 fun k2 => Q (.bl k2) S3) X
      | false => Q (.bl false) S2) X) X
  | .ix a i, ρ, S, Q, X => wpE F a ρ S (fun x S1 => wpE F i ρ S1 (fun y S2 => ixD x y S2 Q) X) X
  | .sl a lo hi, ρ, S, Q, X => wpE F a ρ S (fun x S1 => wpE F lo ρ S1 (fun y S2 => match optP lo y with
      | some l => wpE F hi ρ S2 (fun z S3 => match optP hi z with
        | some h => slD x l h S3 Q
        | none => False) X
      | none => False) X) X
  | .skl i a, ρ, S, Q, X => wpE F a ρ S (fun x S1 => sklD i x S1 Q) X
  | .rev a, ρ, S, Q, X => wpE F a ρ S (fun x S1 => match x with
      | .tup l => Q (.tup l.reverse) S1
      | x => (match lq? S1 x with | some l => Q (.ref S1.length) (S1 ++ [.lst l.reverse]) | none => False)) X
  | .dct ks vs, ρ, S, Q, X => wpEs F ks ρ S (fun xs S1 => wpEs F vs ρ S1 (fun ys S2 => match dLit xs ys with
      | some kvs => Q (.ref S2.length) (S2 ++ [.dct kvs])
      | none => False) X) X
  | .dsp ks vs, ρ, S, Q, X => (match keysAt ρ ks with
    | some kk => wpEs F vs ρ (S ++ [.dct []]) (fun ds S2 => ds.length = kk.length ∧ S2[S.length]? = some (.dct []) ∧ Q (.ref S.length) (S2.set S.length (.dct (mergeD [] (kk.zip ds))))) X
    | none => False)
  | .bm m o es, ρ, S, Q, X => wpE F o ρ S (fun x S1 => recv m x S1 = true ∧ wpEs F es ρ S1 (fun ds S2 => bm m x ds S2 Q) X) X
  | .attr c o f, ρ, S, Q, X => wpE F o ρ S (fun x S1 => match inst? S1 x with
      | some (c', fs) => (match fs.lookup f with | some d => c' = c ∧ Q d S1 | none => False)
      | none => False) X
  | .meth c m f o es, ρ, S, Q, X => wpE F o ρ S (fun x S1 => match inst? S1 x with
      | some (c', fs) => c' = c ∧ fs.lookup m = none ∧ wpEs F es ρ S1 (fun ds S2 => F f (x :: ds) S2 Q X) X
      | none => False) X
  | .make c f es, ρ, S, Q, X => wpEs F es ρ S (fun ds S1 => F f (.ref S1.length :: ds) (S1 ++ [.ins c []]) (fun d S2 => d = .non ∧ Q (.ref S1.length) S2) X) X
  | .lc own t it c e, ρ, S, Q, X => wpIt F it ρ S (fun l G S1 => wpLc t G (fun ρ S Q => wpE F c ρ S Q noX) (fun ρ S Q => wpE F e ρ S Q noX) (fun S2 => Q (.ref S1.length) S2) S1.length (wipeE ρ own) l [] (S1 ++ [.lst []])) X
  | .lc2 own t it own1 t1 it1 e, ρ, S, Q, X => wpIt F it ρ S (fun l G S1 => wpLc2 t G (fun ρ S R => wpIt F it1 ρ S R noX) t1 own1 (fun ρ S Q => wpE F e ρ S Q noX) (fun S2 => Q (.ref S1.length) S2) S1.length (wipeE ρ own) l [] (S1 ++ [.lst []])) X
  | .dc own t it c e, ρ, S, Q, X => wpIt F it ρ S (fun l G S1 => wpDc t G (fun ρ S Q => wpE F c ρ S Q noX) (fun ρ S Q => wpE F e ρ S Q noX) (fun S2 => Q (.ref S1.length) S2) S1.length (wipeE ρ own) l [] (S1 ++ [.dct []])) X
  | .orv a b, ρ, S, Q, X => wpE F a ρ S (fun x S1 => match x with | .non => wpE F b ρ S1 Q X | .int i => (if i = 0 then wpE F b ρ S1 Q X else Q (.int i) S1) | _ => False) X
  | .ind neg a b, ρ, S, Q, X => wpE F a ρ S (fun x S1 => wpE F b ρ S1 (fun y S2 => inD x y S2 fun k => Q (.bl (if neg then !k else k)) S2) X) X
  | .lk e, ρ, S, Q, _ => ∃ n kvs, S[n]? = some (.dct kvs) ∧ wpE F e ρ (S.set n (.fdct kvs)) (fun x S1 => S1[n]? = some (.fdct kvs) ∧ Q x (S1.set n (.dct kvs))) noX
  | .nild a b, ρ, S, Q, X => wpE F a ρ S (fun x S1 => wpE F b ρ S1 (fun y S2 => nilD x y S2 fun k => Q (.bl k) S2) X) X
  | .lenO e, ρ, S, Q, X => wpE F e ρ S (fun d S1 => lenOD d fun n => Q (.int n) S1) X
  | .inR neg x a b, ρ, S, Q, X => wpE F x ρ S (fun x S1 => wpE F a ρ S1 (fun y S2 => wpE F b ρ S2 (fun z S3 => inRD neg x y z S3 Q) X) X) X
  | .methk c m f o es d ks, ρ, S, Q, X => wpE F o ρ S (fun x S1 => match inst? S1 x with
      | some (c', fs) => c' = c ∧ fs.lookup m = none ∧ wpEs F es ρ S1 (fun ds S2 => wpEs F ks ρ S2 (fun zs S3 => F f ((x :: ds) ++ arrK d zs) S3 Q X) X) X
      | none => False) X
  | .gix _ kvs i, ρ, S, Q, X => wpE F i ρ S (fun y S1 => gixD kvs y S1 Q) X
  | .dctP, _, S, Q, _ => Q (.ref S.length) (S ++ [.dtp []])
  | .dictF e, ρ, S, Q, X => wpE F e ρ S (fun x S1 => dictFD x S1 Q) X
  | .ixF o k, ρ, S, Q, X => wpE F o ρ S (fun x S1 => wpE F k ρ S1 (fun y S2 => ixFD x y S2 Q) X) X
  | .minF o, ρ, S, Q, X => wpE F o ρ S (fun x S1 => minFD x S1 Q) X
  | .ixP o a b, ρ, S, Q, X => wpE F o ρ S (fun x S1 => wpE F a ρ S1 (fun y S2 => wpE F b ρ S2 (fun z S3 => pIx x y z S3 Q) X) X) X
  | .inP neg a b o, ρ, S, Q, X => wpE F a ρ S (fun y S1 => wpE F b ρ S1 (fun z S2 => wpE F o ρ S2 (fun x S3 => pIn y z x S3 fun k => Q (.bl (if neg then !k else k)) S3) X) X) X
  | .told ws e, ρ, S, Q, _ => wpE F e ρ S (fun x S1 => Q (.tup [.str "told", x]) S1) (fun c S1 => match ws.lookup c with | some w => Q (.str w) S1 | none => False)
  | .tup es, ρ, S, Q, X => wpEs F es ρ S (fun ds S1 => ds.length ≤ lim ∧ Q (.tup ds) S1) X
  | .lst es, ρ, S, Q, X => wpEs F es ρ S (fun ds S1 => ds.length ≤ lim ∧ Q (.ref S1.length) (S1 ++ [.lst ds])) X
  | .call f es, ρ, S, Q, X => wpEs F es ρ S (fun ds S1 => F f ds S1 Q X) X
  | .calld f es d, ρ, S, Q, X => wpEs F es ρ S (fun ds S1 => F f (ds ++ [d]) S1 Q X) X
  | .callk f es k, ρ, S, Q, X => wpEs F es ρ S (fun ds S1 => wpE F k ρ S1 (fun z S2 => F f (ds ++ [z]) S2 Q X) X) X
  | .blt b es, ρ, S, Q, X => wpEs F es ρ S (fun ds S1 => bt b ds S1 Q) X
def wpEs (F : Sem) : Es → Env → Store → (List D → Store → Prop) → XK → Prop
  | .nil, _, S, Q, _ => Q [] S
  | .cons e es, ρ, S, Q, X => wpE F e ρ S (fun x S1 => wpEs F es ρ S1 (fun xs S2 => Q (x :: xs) S2) X) X
def wpIt (F : Sem) : It → Env → Store → (List D → (Store → Prop) → Store → Prop) → XK → Prop
  | .seq e, ρ, S, R, X => wpE F e ρ S (fun x S1 => itSeq x S1 fun l G => R l G S1) X
  | .rng a b, ρ, S, R, X => wpE F a ρ S (fun x S1 => wpE F b ρ S1 (fun y S2 => match x, y with
    | .int i, .int j => -1000000 ≤ i ∧ i ≤ 1000000 ∧ -1000000 ≤ j ∧ j ≤ 1000000 ∧ R (rngL i j) (fun _ => True) S2
    | _, _ => False) X) X
  | .rngd a b, ρ, S, R, X => wpE F a ρ S (fun x S1 => wpE F b ρ S1 (fun y S2 => match x, y with
    | .int i, .int j => -1000000 ≤ i ∧ i ≤ 1000000 ∧ -1000000 ≤ j ∧ j ≤ 1000000 ∧ R (rngD i j) (fun _ => True) S2
    | _, _ => False) X) X
  | .rng2 a b, ρ, S, R, X => wpE F a ρ S (fun x S1 => wpE F b ρ S1 (fun y S2 => match x, y with
    | .int i, .int j => -1000000 ≤ i ∧ i ≤ 1000000 ∧ -1000000 ≤ j ∧ j ≤ 1000000 ∧ R (rng2L i j) (fun _ => True) S2
    | _, _ => False) X) X
  | .enum e, ρ, S, R, X => wpE F e ρ S (fun x S1 => itSeq x S1 fun l G => R (enumL l) G S1) X
  | .keys e, ρ, S, R, X => wpE F e ρ S (fun x S1 => match x with
    | .ref n => (match S1[n]? with
      | some (.dct kvs) => R (kvs.map fun kv => keyD kv.1) (fun S => S[n]? = some (.fdct kvs)) (S1.set n (.fdct kvs))
      | some (.fdct kvs) => R (kvs.map fun kv => keyD kv.1) (fun S => S[n]? = some (.fdct kvs)) S1
      | _ => False)
    | _ => False) X
  | .chars e, ρ, S, R, X => wpE F e ρ S (fun x S1 => match x with
    | .str z => R (charsL z) (fun _ => True) S1
    | _ => False) X
  | .vals e, ρ, S, R, X => wpE F e ρ S (fun x S1 => match x with
    | .ref n => (match S1[n]? with
      | some (.fdct kvs) => R (kvs.map fun kv => kv.2) (fun S => S[n]? = some (.fdct kvs)) S1
      | _ => False)
    | _ => False) X
end
def Es.len : Es → Nat
  | .nil => 0
  | .cons _ es => es.len + 1
structure Ends where
  nx : Env → Store → Prop
  rt : DK
  bk : Env → Store → Prop
  ct : Env → Store → Prop
  xc : XK
def wpFor (t : Tg) (G : Store → Prop) (b : Ends → Env → Store → Prop) (K : Ends) : List D → Env → Store → Prop
  | [], ρ, S => G S ∧ K.nx ρ S
  | d :: r, ρ, S => G S ∧ (match t.bind d ρ with
    | some ρ1 => b { K with nx := wpFor t G b K r, ct := wpFor t G b K r, bk := K.nx } ρ1 S
    | none => False)
def wpWh (c : Env → Store → DK → Prop) (b : Ends → Env → Store → Prop) (K : Ends) : Nat → Env → Store → Prop
  | 0, _, _ => False
  | n + 1, ρ, S => c ρ S fun x S1 => match x with
    | .bl true => b { K with nx := wpWh c b K n, ct := wpWh c b K n, bk := K.nx } ρ S1
    | .bl false => K.nx ρ S1
    | _ => False
def setIx (o i v : D) (S : Store) (Q : Store → Prop) : Prop := match o with
  | .ref n => (match S[n]? with
    | some (.lst l) => (match i with
      | .int i => (match L2.ixN l.length i with
        | some j => Q (S.set n (.lst (l.set j v)))
        | none => False)
      | _ => False)
    | some (.dct kvs) => (match keyOf i with
      | some k => kvs.length < lim ∧ Q (S.set n (.dct (dPut kvs k v)))
      | none => False)
    | _ => False)
  | _ => False
def putF (f : Str) (d : D) : List (Str × D) → List (Str × D)
  | [] => [(f, d)]
  | (g, e) :: r => if g = f then (g, d) :: r else (g, e) :: putF f d r
def setAt (c : Nat) (f : Str) (o v : D) (S : Store) (Q : Store → Prop) : Prop := match o with
  | .ref n => (match S[n]? with
    | some (.ins c' fs) => c' = c ∧ fs.length < 900 ∧ Q (S.set n (.ins c' (putF f v fs)))
    | _ => False)
  | _ => False
def iop (op : Operator) (x y : D) (S : Store) (Q : DK) : Prop := match op with
  | .Add => (match x, y with
    | .int i, .int j => Q (.int (i + j)) S
    | .ref n, .ref b => (match S[n]?, S[b]? with
      | some (.lst l), some (.lst k) => l.length + k.length ≤ lim ∧ Q (.ref n) (S.set n (.lst (l ++ k)))
      | _, _ => False)
    | _, _ => False)
  | .Sub => (match x, y with
    | .int i, .int j => Q (.int (i - j)) S
    | _, _ => False)
  | _ => False
def wpTms (F : Sem) : List Tm → List D → (Env → Store → Prop) → Env → Store → XK → Prop
  | [], ds, nx, ρ, S, _ => (match ds with | [] => nx ρ S | _ => False)
  | .tg t :: ts, ds, nx, ρ, S, X => (match ds with
    | d :: r => (match t.bind d ρ with | some ρ1 => wpTms F ts r nx ρ1 S X | none => False)
    | [] => False)
  | .sub o i :: ts, ds, nx, ρ, S, X => (match ds with
    | d :: r => wpE F o ρ S (fun y S2 => wpE F i ρ S2 (fun z S3 => setIx y z d S3 fun S4 => wpTms F ts r nx ρ S4 X) X) X
    | [] => False)
  | .att c o f :: ts, ds, nx, ρ, S, X => (match ds with
    | d :: r => wpE F o ρ S (fun y S2 => setAt c f y d S2 fun S3 => wpTms F ts r nx ρ S3 X) X
    | [] => False)
def wpDs (ev : E → Env → Store → DK → Prop) (dl dr t : Nat) (b : Ends → Env → Store → Prop) (K : Ends) (fin : Env → Store → Prop) : List E → Env → Store → Prop
  | [], ρ, S => fin ρ S
  | e :: es, ρ, S => (ρ[dl]? = some none ∧ ρ[dr]? = some none) ∧ ev e ρ S fun d S1 => b { nx := wpDs ev dl dr t b K fin es, rt := K.rt, bk := fun _ _ => False, ct := fun _ _ => False, xc := K.xc } (ρ.set t (some d)) S1
mutual
def wpC (F : Sem) : C → Ends → Env → Store → Prop
  | .bad, _, _, _ => False
  | .set i e, K, ρ, S => wpE F e ρ S (fun x S1 => K.nx (ρ.set i (some x)) S1) K.xc
  | .asg t e, K, ρ, S => wpE F e ρ S (fun x S1 => match t.bind x ρ with | some ρ1 => K.nx ρ1 S1 | none => False) K.xc
  | .asgm ts e, K, ρ, S => wpE F e ρ S (fun x S1 => match x with | .tup ds => ds.length = ts.length ∧ wpTms F ts ds K.nx ρ S1 K.xc | _ => False) K.xc
  | .par i j a b, K, ρ, S => wpE F a ρ S (fun x S1 => wpE F b ρ S1 (fun y S2 => K.nx ((ρ.set i (some x)).set j (some y)) S2) K.xc) K.xc
  | .star i j e, K, ρ, S => wpE F e ρ S (fun x S1 => match x with
    | .tup (d :: r) => K.nx ((ρ.set i (some d)).set j (some (.ref S1.length))) (S1 ++ [.lst r])
    | _ => False) K.xc
  | .unp i j e, K, ρ, S => wpE F e ρ S (fun x S1 => match lq? S1 x with
    | some [a, b] => K.nx ((ρ.set i (some a)).set j (some b)) S1
    | _ => False) K.xc
  | .setA c o f e, K, ρ, S => wpE F e ρ S (fun x S1 => wpE F o ρ S1 (fun y S2 => setAt c f y x S2 fun S3 => K.nx ρ S3) K.xc) K.xc
  | .aug i op e, K, ρ, S => (match ρ[i]? with
    | some (some x) => wpE F e ρ S (fun y S1 => iop op x y S1 fun z S2 => K.nx (ρ.set i (some z)) S2) K.xc
    | _ => False)
  | .augA c o f op e, K, ρ, S => wpE F o ρ S (fun x S1 => match inst? S1 x with
    | some (c', fs) => (match fs.lookup f with
      | some d => c' = c ∧ wpE F e ρ S1 (fun y S2 => iop op d y S2 fun z S3 => setAt c f x z S3 fun S4 => K.nx ρ S4) K.xc
      | none => False)
    | none => False) K.xc
  | .augX o i op e, K, ρ, S => wpE F o ρ S (fun x S1 => wpE F i ρ S1 (fun y S2 => ixD x y S2 fun z S3 => wpE F e ρ S3 (fun w S4 => iop op z w S4 fun r S5 => setIx x y r S5 fun S6 => K.nx ρ S6) K.xc) K.xc) K.xc
  | .pass, K, ρ, S => K.nx ρ S
  | .raise c, K, _, S => K.xc c S
  | .setIx o i e, K, ρ, S => wpE F e ρ S (fun x S1 => wpE F o ρ S1 (fun y S2 => wpE F i ρ S2 (fun z S3 => setIx y z x S3 fun S4 => K.nx ρ S4) K.xc) K.xc) K.xc
  | .setP o a b e, K, ρ, S => wpE F e ρ S (fun x S1 => wpE F o ρ S1 (fun y S2 => wpE F a ρ S2 (fun z S3 => wpE F b ρ S3 (fun w S4 => pSet y z w x S4 fun S5 => K.nx ρ S5) K.xc) K.xc) K.xc) K.xc
  | .ret e, K, ρ, S => wpE F e ρ S K.rt K.xc
  | .ex e, K, ρ, S => wpE F e ρ S (fun _ S1 => K.nx ρ S1) K.xc
  | .cond c a b, K, ρ, S => wpE F c ρ S (fun x S1 => match x with | .bl true => wpCs F a K ρ S1 | .bl false => wpCs F b K ρ S1 | _ => False) K.xc
  | .whl c b, K, ρ, S => ∃ n, wpWh (fun ρ S Q => wpE F c ρ S Q K.xc) (wpCs F b) K n ρ S
  | .for_ t it b, K, ρ, S => wpIt F it ρ S (fun l G S1 => wpFor t G (wpCs F b) K l ρ S1) K.xc
def wpCs (F : Sem) : Cs → Ends → Env → Store → Prop
  | .nil, K, ρ, S => K.nx ρ S
  | .cons c cs, K, ρ, S => wpC F c { K with nx := fun ρ1 S1 => wpCs F cs K ρ1 S1 } ρ S
  | .doors dl dr t ws e1 e2 e3 b r, K, ρ, S => wpDs (fun e ρ S Q => wpE F e ρ S Q K.xc) dl dr t (wpCs F b) K (wpCs F r K) [.told ws e1, .told ws e2, .told ws e3] ρ S
end
structure Fn where
  np : Nat
  n : Nat
  body : Cs
abbrev Prog := Nat → Option Fn
def rtEnds (Q : DK) (X : XK) : Ends := ⟨fun _ S => Q .non S, Q, fun _ _ => False, fun _ _ => False, X⟩
def startE (fn : Fn) (ds : List D) : Env := ds.map some ++ List.replicate (fn.n - ds.length) none
def callN (P : Prog) : Nat → Sem
  | 0, _, _, _, _, _ => False
  | n + 1, f, ds, S, Q, X => match P f with
    | some fn => ds.length = fn.np ∧ wpCs (callN P n) fn.body (rtEnds Q X) (startE fn ds) S
    | none => (if 1000000 ≤ f then callN P n (f - 1000000) ds S Q X else False)
end Mn
namespace Mn
open PySem
def DK.le (Q Q' : DK) : Prop := ∀ d S, Q d S → Q' d S
def SemMono (F : Sem) : Prop := ∀ f ds S (Q Q' : DK) (X X' : XK), (∀ d S, Q d S → Q' d S) → (∀ c S, X c S → X' c S) → F f ds S Q X → F f ds S Q' X'
theorem cEq_mono {x y : D} {S : Store} {K K' : Bool → Prop} (h : ∀ b, K b → K' b) (q : cEq x y S K) : cEq x y S K' := by
  unfold cEq at *
  split at q
  · exact h _ q
  · obtain ⟨p, r, a, b, c, d, e, k⟩ := q
    exact ⟨p, r, a, b, c, d, e, h _ k⟩
theorem cIs_mono {x y : D} {K K' : Bool → Prop} (h : ∀ b, K b → K' b) (q : cIs x y K) : cIs x y K' := by
  unfold cIs at *
  split at q
  · exact h _ q
  · split at q
    · exact h _ q
    · exact q
  · exact q
theorem cIn_mono {x y : D} {S : Store} {K K' : Bool → Prop} (h : ∀ b, K b → K' b) (q : cIn x y S K) : cIn x y S K' := by
  unfold cIn at *
  (repeat' split at q) <;> first | exact ⟨q.1, q.2.1, h _ q.2.2⟩ | exact h _ q | exact q | (unfold strInD at *; (repeat' split at q) <;> first | exact h _ q | exact q.elim)
theorem cLe_mono {x y : D} {K K' : Bool → Prop} (h : ∀ b, K b → K' b) (q : cLe x y K) : cLe x y K' := by
  unfold cLe at *
  split at q
  · exact h _ q
  · exact q
theorem cGt_mono {x y : D} {K K' : Bool → Prop} (h : ∀ b, K b → K' b) (q : cGt x y K) : cGt x y K' := by
  unfold cGt at *
  split at q
  · exact h _ q
  · split at q
    · exact h _ q
    · exact q
  · exact q
theorem cGe_mono {x y : D} {K K' : Bool → Prop} (h : ∀ b, K b → K' b) (q : cGe x y K) : cGe x y K' := by
  unfold cGe at *
  split at q
  · exact h _ q
  · exact q
theorem cLt_mono {x y : D} {K K' : Bool → Prop} (h : ∀ b, K b → K' b) (q : cLt x y K) : cLt x y K' := by
  unfold cLt at *
  split at q
  · exact h _ q
  · split at q
    · exact h _ q
    · exact q
  · exact q
theorem cmpB_mono {op : CmpOp} {x y : D} {S : Store} {K K' : Bool → Prop} (h : ∀ b, K b → K' b) (q : cmpB op x y S K) : cmpB op x y S K' := by
  cases op
  · exact cEq_mono h q
  · exact cEq_mono (fun b => h (!b)) q
  · exact cLt_mono h q
  · exact cLe_mono h q
  · exact cGt_mono h q
  · exact cGe_mono h q
  · exact cIs_mono h q
  · exact cIs_mono (fun b => h (!b)) q
  · exact cIn_mono h q
  · exact cIn_mono (fun b => h (!b)) q
theorem bSub_mono {x y : D} {S : Store} {Q Q' : DK} (h : ∀ d S, Q d S → Q' d S) (q : bSub x y S Q) : bSub x y S Q' := by
  unfold bSub at *
  split at q
  · exact h _ _ q
  · exact q
theorem bDiv_mono {x y : D} {S : Store} {Q Q' : DK} (h : ∀ d S, Q d S → Q' d S) (q : bDiv x y S Q) : bDiv x y S Q' := by
  unfold bDiv at *
  split at q
  · exact ⟨q.1, q.2.1, h _ _ q.2.2⟩
  · exact q
theorem bMod_mono {x y : D} {S : Store} {Q Q' : DK} (h : ∀ d S, Q d S → Q' d S) (q : bMod x y S Q) : bMod x y S Q' := by
  unfold bMod at *
  split at q
  · exact ⟨q.1, h _ _ q.2⟩
  · exact q
theorem bPow_mono {x y : D} {S : Store} {Q Q' : DK} (h : ∀ d S, Q d S → Q' d S) (q : bPow x y S Q) : bPow x y S Q' := by
  unfold bPow at *
  split at q
  · exact ⟨q.1, q.2.1, q.2.2.1, h _ _ q.2.2.2⟩
  · exact q
theorem bShl_mono {x y : D} {S : Store} {Q Q' : DK} (h : ∀ d S, Q d S → Q' d S) (q : bShl x y S Q) : bShl x y S Q' := by
  unfold bShl at *
  split at q
  · exact ⟨q.1, h _ _ q.2⟩
  · exact q
theorem bShr_mono {x y : D} {S : Store} {Q Q' : DK} (h : ∀ d S, Q d S → Q' d S) (q : bShr x y S Q) : bShr x y S Q' := by
  unfold bShr at *
  split at q
  · exact ⟨q.1, h _ _ q.2⟩
  · exact q
theorem bop_mono {op : Operator} {x y : D} {S : Store} {Q Q' : DK} (h : ∀ d S, Q d S → Q' d S) (q : bop op x y S Q) : bop op x y S Q' := by
  cases op with
  | Add =>
    show bAdd x y S Q'
    replace q : bAdd x y S Q := q
    unfold bAdd at *
    split at q
    · exact h _ _ q
    · exact h _ _ q
    · exact ⟨q.1, h _ _ q.2⟩
    · exact ⟨q.1, h _ _ q.2⟩
    · split at q
      · exact ⟨q.1, h _ _ q.2⟩
      · exact q
  | Mult =>
    show bMul x y S Q'
    replace q : bMul x y S Q := q
    unfold bMul at *
    split at q
    · exact ⟨q.1, q.2.1, h _ _ q.2.2⟩
    · split at q
      · exact ⟨q.1, q.2.1, q.2.2.1, h _ _ q.2.2.2⟩
      · exact q
    · exact q
  | Sub => exact bSub_mono h q
  | FloorDiv => exact bDiv_mono h q
  | Mod => exact bMod_mono h q
  | Pow => exact bPow_mono h q
  | LShift => exact bShl_mono h q
  | RShift => exact bShr_mono h q
  | _ => exact q
theorem bList_mono {ds : List D} {S : Store} {Q Q' : DK} (h : ∀ d S, Q d S → Q' d S) (q : bList ds S Q) : bList ds S Q' := by
  unfold bList at *
  (repeat' split at q) <;> first | exact h _ _ q | exact q
theorem bTuple_mono {ds : List D} {S : Store} {Q Q' : DK} (h : ∀ d S, Q d S → Q' d S) (q : bTuple ds S Q) : bTuple ds S Q' := by
  unfold bTuple at *
  (repeat' split at q) <;> first | exact h _ _ q | exact q
theorem bSorted_mono {ds : List D} {S : Store} {Q Q' : DK} (h : ∀ d S, Q d S → Q' d S) (q : bSorted ds S Q) : bSorted ds S Q' := by
  unfold bSorted at *
  (repeat' split at q) <;> first | exact ⟨q.1, h _ _ q.2⟩ | exact q
theorem bMaxd_mono {ds : List D} {S : Store} {Q Q' : DK} (h : ∀ d S, Q d S → Q' d S) (q : bMaxd ds S Q) : bMaxd ds S Q' := by
  unfold bMaxd at *
  (repeat' split at q) <;> first | exact h _ _ q | exact ⟨q.1, h _ _ q.2⟩ | exact q
theorem bMind_mono {ds : List D} {S : Store} {Q Q' : DK} (h : ∀ d S, Q d S → Q' d S) (q : bMind ds S Q) : bMind ds S Q' := by
  unfold bMind at *
  (repeat' split at q) <;> first | exact h _ _ q | exact ⟨q.1, h _ _ q.2⟩ | exact q
theorem bAbs_mono {ds : List D} {S : Store} {Q Q' : DK} (h : ∀ d S, Q d S → Q' d S) (q : bAbs ds S Q) : bAbs ds S Q' := by
  unfold bAbs at *
  split at q <;> first | exact h _ _ q | exact q
theorem bSum_mono {ds : List D} {S : Store} {Q Q' : DK} (h : ∀ d S, Q d S → Q' d S) (q : bSum ds S Q) : bSum ds S Q' := by
  unfold bSum at *
  (repeat' split at q) <;> first | exact h _ _ q | exact q
theorem bInt_mono {ds : List D} {S : Store} {Q Q' : DK} (h : ∀ d S, Q d S → Q' d S) (q : bInt ds S Q) : bInt ds S Q' := by
  unfold bInt at *
  split at q <;> first | exact h _ _ q | exact q
theorem bDict_mono {ds : List D} {S : Store} {Q Q' : DK} (h : ∀ d S, Q d S → Q' d S) (q : bDict ds S Q) : bDict ds S Q' := by
  unfold bDict at *
  (repeat' split at q) <;> first | exact h _ _ q | exact q
theorem bLrng_mono {ds : List D} {S : Store} {Q Q' : DK} (h : ∀ d S, Q d S → Q' d S) (q : bLrng ds S Q) : bLrng ds S Q' := by
  unfold bLrng at *
  (repeat' split at q) <;> first | exact ⟨q.1, q.2.1, h _ _ q.2.2⟩ | exact q
theorem bBest_mono {f} {ds : List D} {S : Store} {Q Q' : DK} (h : ∀ d S, Q d S → Q' d S) (q : bBest f ds S Q) : bBest f ds S Q' := by
  unfold bBest at *
  (repeat' split at q) <;> first | exact ⟨q.1, h _ _ q.2⟩ | exact q
theorem bAny_mono {f} {ds : List D} {S : Store} {Q Q' : DK} (h : ∀ d S, Q d S → Q' d S) (q : bAny f ds S Q) : bAny f ds S Q' := by
  unfold bAny at *
  (repeat' split at q) <;> first | exact h _ _ q | exact q
theorem mAppend_mono {o : D} {ds : List D} {S : Store} {Q Q' : DK} (h : ∀ d S, Q d S → Q' d S) (q : mAppend o ds S Q) : mAppend o ds S Q' := by
  unfold mAppend at *
  (repeat' split at q) <;> first | exact ⟨q.1, h _ _ q.2⟩ | exact q
theorem mPop_mono {o : D} {ds : List D} {S : Store} {Q Q' : DK} (h : ∀ d S, Q d S → Q' d S) (q : mPop o ds S Q) : mPop o ds S Q' := by
  unfold mPop at *
  (repeat' split at q) <;> first | exact h _ _ q | exact q
theorem mPopAt_mono {o : D} {ds : List D} {S : Store} {Q Q' : DK} (h : ∀ d S, Q d S → Q' d S) (q : mPopAt o ds S Q) : mPopAt o ds S Q' := by
  unfold mPopAt at *
  (repeat' split at q) <;> first | exact h _ _ q | exact q
theorem mInsert_mono {o : D} {ds : List D} {S : Store} {Q Q' : DK} (h : ∀ d S, Q d S → Q' d S) (q : mInsert o ds S Q) : mInsert o ds S Q' := by
  unfold mInsert at *
  (repeat' split at q) <;> first | exact ⟨q.1, q.2.1, q.2.2.1, h _ _ q.2.2.2⟩ | exact q
theorem mRemove_mono {o : D} {ds : List D} {S : Store} {Q Q' : DK} (h : ∀ d S, Q d S → Q' d S) (q : mRemove o ds S Q) : mRemove o ds S Q' := by
  unfold mRemove at *
  (repeat' split at q) <;> first | exact ⟨q.1, q.2.1, h _ _ q.2.2⟩ | exact q
theorem mIndex_mono {o : D} {ds : List D} {S : Store} {Q Q' : DK} (h : ∀ d S, Q d S → Q' d S) (q : mIndex o ds S Q) : mIndex o ds S Q' := by
  unfold mIndex at *
  (repeat' split at q) <;> first | exact ⟨q.1, q.2.1, h _ _ q.2.2⟩ | exact q
theorem mDpop_mono {o : D} {ds : List D} {S : Store} {Q Q' : DK} (h : ∀ d S, Q d S → Q' d S) (q : mDpop o ds S Q) : mDpop o ds S Q' := by
  unfold mDpop at *
  (repeat' split at q) <;> first | exact h _ _ q | exact q
theorem mBitlen_mono {o : D} {ds : List D} {S : Store} {Q Q' : DK} (h : ∀ d S, Q d S → Q' d S) (q : mBitlen o ds S Q) : mBitlen o ds S Q' := by
  unfold mBitlen at *
  split at q <;> first | exact h _ _ q | exact q
theorem mRemd_mono {o : D} {ds : List D} {S : Store} {Q Q' : DK} (h : ∀ d S, Q d S → Q' d S) (q : mRemd o ds S Q) : mRemd o ds S Q' := by
  unfold mRemd at *
  (repeat' split at q) <;> first | exact ⟨q.1, q.2.1, h _ _ q.2.2⟩ | exact q
theorem inD_mono {x y : D} {S : Store} {K K' : Bool → Prop} (h : ∀ b, K b → K' b) (q : inD x y S K) : inD x y S K' := by
  unfold inD at *
  split at q
  · split at q
    · obtain ⟨ps, q1, q2, q3⟩ := q
      exact ⟨ps, q1, q2, h _ q3⟩
    · exact ⟨q.1, q.2.1, h _ q.2.2⟩
  · exact q
theorem inRD_mono {neg : Bool} {x y z : D} {S : Store} {Q Q' : DK} (h : ∀ d S, Q d S → Q' d S) (q : inRD neg x y z S Q) : inRD neg x y z S Q' := by
  unfold inRD at *
  split at q
  · exact h _ _ q
  · exact q.elim
theorem gixD_mono {kvs : List (Str × Int)} {y : D} {S : Store} {Q Q' : DK} (h : ∀ d S, Q d S → Q' d S) (q : gixD kvs y S Q) : gixD kvs y S Q' := by
  unfold gixD at *
  cases y with
  | str z =>
    dsimp only at *
    cases e : kvs.lookup z with
    | none => rw [e] at q; exact q.elim
    | some n => rw [e] at q; exact h _ _ q
  | _ => exact q.elim
theorem pIx_mono {o a b : D} {S : Store} {Q Q' : DK} (h : ∀ d S, Q d S → Q' d S) (q : pIx o a b S Q) : pIx o a b S Q' := by
  unfold pIx at *
  (repeat' split at q) <;> first | exact h _ _ q | exact q
theorem pIn_mono {a b o : D} {S : Store} {K K' : Bool → Prop} (h : ∀ b, K b → K' b) (q : pIn a b o S K) : pIn a b o S K' := by
  unfold pIn at *
  split at q
  · exact h _ q
  · exact q
theorem pSet_mono {o a b v : D} {S : Store} {Q Q' : Store → Prop} (h : ∀ S, Q S → Q' S) (q : pSet o a b v S Q) : pSet o a b v S Q' := by
  unfold pSet at *
  split at q
  · exact ⟨q.1, h _ q.2⟩
  · exact q
theorem bLset_mono {ds : List D} {S : Store} {Q Q' : DK} (h : ∀ d S, Q d S → Q' d S) (q : bLset ds S Q) : bLset ds S Q' := by
  unfold bLset at *
  (repeat' split at q) <;> first | exact ⟨q.1, fun ns h1 h2 => h _ _ (q.2 ns h1 h2)⟩ | exact q
theorem bSset_mono {ds : List D} {S : Store} {Q Q' : DK} (h : ∀ d S, Q d S → Q' d S) (q : bSset ds S Q) : bSset ds S Q' := by
  unfold bSset at *
  (repeat' split at q) <;> first | exact ⟨q.1, fun ns h1 h2 => h _ _ (q.2 ns h1 h2)⟩ | exact ⟨q.1, fun ns h1 h2 => ⟨(q.2 ns h1 h2).1, h _ _ (q.2 ns h1 h2).2⟩⟩ | exact q
theorem mGet_mono {e : Option D} {o k : D} {S : Store} {Q Q' : DK} (h : ∀ d S, Q d S → Q' d S) (q : mGet e o k S Q) : mGet e o k S Q' := by
  unfold mGet at *
  (repeat' split at q) <;> first | exact h _ _ q | exact q
theorem mGet1_mono {o : D} {ds : List D} {S : Store} {Q Q' : DK} (h : ∀ d S, Q d S → Q' d S) (q : mGet1 o ds S Q) : mGet1 o ds S Q' := by
  unfold mGet1 at *
  split at q <;> first | exact mGet_mono h q | exact q
theorem mGet2_mono {o : D} {ds : List D} {S : Store} {Q Q' : DK} (h : ∀ d S, Q d S → Q' d S) (q : mGet2 o ds S Q) : mGet2 o ds S Q' := by
  unfold mGet2 at *
  split at q <;> first | exact mGet_mono h q | exact q
theorem bm_mono {m : Bm} {o : D} {ds : List D} {S : Store} {Q Q' : DK} (h : ∀ d S, Q d S → Q' d S) (q : bm m o ds S Q) : bm m o ds S Q' := by
  cases m
  · exact mAppend_mono h q
  · exact mPop_mono h q
  · exact mPopAt_mono h q
  · exact mInsert_mono h q
  · exact mRemove_mono h q
  · exact mIndex_mono h q
  · exact mGet1_mono h q
  · exact mGet2_mono h q
  · exact mDpop_mono h q
  · exact mBitlen_mono h q
  · exact mRemd_mono h q
theorem bt_mono {b : Bt} {ds : List D} {S : Store} {Q Q' : DK} (h : ∀ d S, Q d S → Q' d S) (q : bt b ds S Q) : bt b ds S Q' := by
  cases b with
  | len =>
    replace q : bLen ds S Q := q
    show bLen ds S Q'
    unfold bLen at *
    (repeat' split at q) <;> first | exact ⟨q.1, h _ _ q.2⟩ | exact q
  | isi t =>
    replace q : bIsi t ds S Q := q
    show bIsi t ds S Q'
    unfold bIsi at *
    (repeat' split at q) <;> first | exact h _ _ q | exact q
  | max2 =>
    replace q : b2I imax ds S Q := q
    show b2I imax ds S Q'
    unfold b2I at *
    (repeat' split at q) <;> first | exact h _ _ q | exact q
  | min2 =>
    replace q : b2I imin ds S Q := q
    show b2I imin ds S Q'
    unfold b2I at *
    (repeat' split at q) <;> first | exact h _ _ q | exact q
  | list1 => exact bList_mono h q
  | tuple1 => exact bTuple_mono h q
  | sorted1 => exact bSorted_mono h q
  | min1 => exact bBest_mono h q
  | max1 => exact bBest_mono h q
  | maxd => exact bMaxd_mono h q
  | mind => exact bMind_mono h q
  | abs1 => exact bAbs_mono h q
  | sum1 => exact bSum_mono h q
  | any1 => exact bAny_mono h q
  | all1 => exact bAny_mono h q
  | int1 => exact bInt_mono h q
  | dict1 => exact bDict_mono h q
  | lrng => exact bLrng_mono h q
  | lset => exact bLset_mono h q
  | sset => exact bSset_mono h q
theorem ixS_mono {x i : D} {S : Store} {Q Q' : DK} (h : ∀ d S, Q d S → Q' d S) (q : ixS x i S Q) : ixS x i S Q' := by
  unfold ixS at *
  (repeat' split at q) <;> first | exact ⟨q.1, h _ _ q.2⟩ | exact q
theorem ixD_mono {x i : D} {S : Store} {Q Q' : DK} (h : ∀ d S, Q d S → Q' d S) (q : ixD x i S Q) : ixD x i S Q' := by
  unfold ixD at *
  (repeat' split at q) <;> first | exact h _ _ q | exact ixS_mono h q | exact q
theorem slD_mono {x : D} {lo hi : Option Int} {S : Store} {Q Q' : DK} (h : ∀ d S, Q d S → Q' d S) (q : slD x lo hi S Q) : slD x lo hi S Q' := by
  unfold slD at *
  (repeat' split at q) <;> first | exact h _ _ q | exact q
theorem setIx_mono {o i v : D} {S : Store} {Q Q' : Store → Prop} (h : ∀ S, Q S → Q' S) (q : setIx o i v S Q) : setIx o i v S Q' := by
  unfold setIx at *
  (repeat' split at q) <;> first | exact ⟨q.1, h _ q.2⟩ | exact h _ q | exact q
theorem setAt_mono {c : Nat} {f : Str} {o v : D} {S : Store} {Q Q' : Store → Prop} (h : ∀ S, Q S → Q' S) (q : setAt c f o v S Q) : setAt c f o v S Q' := by
  unfold setAt at *
  (repeat' split at q) <;> first | exact ⟨q.1, q.2.1, h _ q.2.2⟩ | exact q
theorem iop_mono {op : Operator} {x y : D} {S : Store} {Q Q' : DK} (h : ∀ d S, Q d S → Q' d S) (q : iop op x y S Q) : iop op x y S Q' := by
  cases op <;> first
    | exact q
    | (unfold iop at *; dsimp only at q ⊢; (repeat' split at q) <;> first | exact ⟨q.1, h _ _ q.2⟩ | exact h _ _ q | exact q)
theorem itSeq_mono {x : D} {S : Store} {R R' : List D → (Store → Prop) → Prop} (h : ∀ l G, R l G → R' l G) (q : itSeq x S R) : itSeq x S R' := by
  unfold itSeq at *
  (repeat' split at q) <;> first | exact h _ _ q | exact q
def TMono (c : Env → Store → DK → Prop) : Prop := ∀ ρ S (Q Q' : DK), (∀ d S, Q d S → Q' d S) → c ρ S Q → c ρ S Q'
theorem wpLc_mono {t : Tg} {G : Store → Prop} {c e : Env → Store → DK → Prop} {Q Q' : Store → Prop} {n : Nat} {ρ : Env} (hc : TMono c) (he : TMono e) (h : ∀ S, Q S → Q' S) : ∀ (l acc : List D) {S : Store}, wpLc t G c e Q n ρ l acc S → wpLc t G c e Q' n ρ l acc S
  | [], _, _, q => ⟨q.1, h _ q.2⟩
  | d :: r, acc, S, q => by
    refine ⟨q.1, ?_⟩
    have q2 := q.2
    split at q2
    · refine hc _ _ _ _ (fun x S1 q3 => ?_) q2
      split at q3
      · exact he _ _ _ _ (fun y S2 q4 => ⟨q4.1, q4.2.1, wpLc_mono hc he h r _ q4.2.2⟩) q3
      · exact wpLc_mono hc he h r _ q3
      · exact q3
    · exact q2
theorem wpLc1_mono {t : Tg} {G : Store → Prop} {e : Env → Store → DK → Prop} {K K' : List D → Store → Prop} {n : Nat} {ρ : Env} (he : TMono e) (h : ∀ a S, K a S → K' a S) : ∀ (l acc : List D) {S : Store}, wpLc1 t G e n ρ K l acc S → wpLc1 t G e n ρ K' l acc S
  | [], _, _, q => ⟨q.1, h _ _ q.2⟩
  | d :: r, acc, S, q => by
    refine ⟨q.1, ?_⟩
    have q2 := q.2
    split at q2
    · exact he _ _ _ _ (fun y S2 q4 => ⟨q4.1, q4.2.1, wpLc1_mono he h r _ q4.2.2⟩) q2
    · exact q2
def IMono (c : Env → Store → (List D → (Store → Prop) → Store → Prop) → Prop) : Prop := ∀ ρ S (R R' : List D → (Store → Prop) → Store → Prop), (∀ l G S, R l G S → R' l G S) → c ρ S R → c ρ S R'
theorem wpLc2_mono {t : Tg} {G : Store → Prop} {I1 : Env → Store → (List D → (Store → Prop) → Store → Prop) → Prop} {t1 : Tg} {own1 : List Nat} {e : Env → Store → DK → Prop} {Q Q' : Store → Prop} {n : Nat} {ρ : Env} (hi : IMono I1) (he : TMono e) (h : ∀ S, Q S → Q' S) : ∀ (l acc : List D) {S : Store}, wpLc2 t G I1 t1 own1 e Q n ρ l acc S → wpLc2 t G I1 t1 own1 e Q' n ρ l acc S
  | [], _, _, q => ⟨q.1, h _ q.2⟩
  | d :: r, acc, S, q => by
    refine ⟨q.1, ?_⟩
    have q2 := q.2
    split at q2
    · exact hi _ _ _ _ (fun l1 G1 S1 q3 => wpLc1_mono he (fun a S' q4 => wpLc2_mono hi he h r a q4) l1 acc q3) q2
    · exact q2
theorem wpDc_mono {t : Tg} {G : Store → Prop} {c e : Env → Store → DK → Prop} {Q Q' : Store → Prop} {n : Nat} {ρ : Env} (hc : TMono c) (he : TMono e) (h : ∀ S, Q S → Q' S) : ∀ (l : List D) (acc : List (Key × D)) {S : Store}, wpDc t G c e Q n ρ l acc S → wpDc t G c e Q' n ρ l acc S
  | [], _, _, q => ⟨q.1, h _ q.2⟩
  | d :: r, acc, S, q => by
    refine ⟨q.1, ?_⟩
    have q2 := q.2
    split at q2
    · refine hc _ _ _ _ (fun x S1 q3 => ?_) q2
      split at q3
      · exact he _ _ _ _ (fun y S2 q4 => ⟨q4.1, q4.2.1, wpDc_mono hc he h r _ q4.2.2⟩) q3
      · exact q3
    · exact q2
section
variable {F : Sem} (hF : SemMono F)
include hF
mutual
theorem wpE_mono : ∀ (e : E) {ρ : Env} {S : Store} {Q Q' : DK} {X X' : XK}, (∀ d S, Q d S → Q' d S) → (∀ c S, X c S → X' c S) → wpE F e ρ S Q X → wpE F e ρ S Q' X'
  | .bad, _, _, _, _, _, _, _, _, q => q
  | .no, _, _, _, _, _, _, h, _, q => h _ _ q
  | .v i, ρ, _, _, _, _, _, h, _, q => by
    unfold wpE at *
    split at q
    · exact h _ _ q
    · exact q
  | .cst d, _, _, _, _, _, _, h, _, q => h _ _ q
  | .and a b, _, _, _, _, _, _, h, hx, q => wpE_mono a (fun x S1 q1 => by
      split at q1
      · exact wpE_mono b h hx q1
      · exact h _ _ q1
      · exact q1) hx q
  | .or a b, _, _, _, _, _, _, h, hx, q => wpE_mono a (fun x S1 q1 => by
      split at q1
      · exact h _ _ q1
      · exact wpE_mono b h hx q1
      · exact q1) hx q
  | .not a, _, _, _, _, _, _, h, hx, q => wpE_mono a (fun x S1 q1 => by
      split at q1
      · exact h _ _ q1
      · exact q1) hx q
  | .ite c a b, _, _, _, _, _, _, h, hx, q => wpE_mono c (fun x S1 q1 => by
      split at q1
      · exact wpE_mono a h hx q1
      · exact wpE_mono b h hx q1
      · exact q1) hx q
  | .bin op a b, _, _, _, _, _, _, h, hx, q => wpE_mono a (fun x S1 q1 => wpE_mono b (fun y S2 q2 => bop_mono h q2) hx q1) hx q
  | .neg a, _, _, _, _, _, _, h, hx, q => wpE_mono a (fun x S1 q1 => by
      split at q1
      · exact h _ _ q1
      · exact q1) hx q
  | .cmp op a b, _, _, _, _, _, _, h, hx, q => wpE_mono a (fun x S1 q1 => wpE_mono b (fun y S2 q2 => cmpB_mono (fun k => h _ _) q2) hx q1) hx q
  | .chn op op2 a b c, _, _, _, _, _, _, h, hx, q => wpE_mono a (fun x S1 q1 => wpE_mono b (fun y S2 q2 => cmpB_mono (fun k q3 => by
      cases k with
      | true => exact wpE_mono c (fun z S3 q4 => cmpB_mono (fun k => h _ _) q4) hx q3
      | false => exact h _ _ q3) q2) hx q1) hx q
  | .ix a i, _, _, _, _, _, _, h, hx, q => wpE_mono a (fun x S1 q1 => wpE_mono i (fun y S2 q2 => ixD_mono h q2) hx q1) hx q
  | .sl a lo hi, _, _, _, _, _, _, h, hx, q => wpE_mono a (fun x S1 q1 => wpE_mono lo (fun y S2 q2 => by
      split at q2
      · refine wpE_mono hi (fun z S3 q3 => ?_) hx q2
        split at q3
        · exact slD_mono h q3
        · exact q3
      · exact q2) hx q1) hx q
  | .skl i a, _, _, _, _, _, _, h, hx, q => wpE_mono a (fun x S1 q1 => by
      unfold sklD at *
      split at q1
      · exact ⟨q1.1, h _ _ q1.2⟩
      · exact q1) hx q
  | .rev a, _, _, _, _, _, _, h, hx, q => wpE_mono a (fun x S1 q1 => by
      (repeat' split at q1) <;> first | exact h _ _ q1 | exact q1) hx q
  | .dct ks vs, _, _, _, _, _, _, h, hx, q => wpEs_mono ks (fun xs S1 q1 => wpEs_mono vs (fun ys S2 q2 => by
      split at q2
      · exact h _ _ q2
      · exact q2) hx q1) hx q
  | .dsp ks vs, _, _, _, _, _, _, h, hx, q => by
    unfold wpE at *
    split at q
    · exact wpEs_mono vs (fun ds S2 q2 => ⟨q2.1, q2.2.1, h _ _ q2.2.2⟩) hx q
    · exact q
  | .bm m o es, _, _, _, _, _, _, h, hx, q => wpE_mono o (fun x S1 q1 => ⟨q1.1, wpEs_mono es (fun ds S2 q2 => bm_mono h q2) hx q1.2⟩) hx q
  | .attr c o f, _, _, _, _, _, _, h, hx, q => wpE_mono o (fun x S1 q1 => by
      (repeat' split at q1) <;> first | exact ⟨q1.1, h _ _ q1.2⟩ | exact q1) hx q
  | .meth c m f o es, _, _, _, _, _, _, h, hx, q => wpE_mono o (fun x S1 q1 => by
      split at q1
      · exact ⟨q1.1, q1.2.1, wpEs_mono es (fun ds S2 q2 => hF _ _ _ _ _ _ _ h hx q2) hx q1.2.2⟩
      · exact q1) hx q
  | .make c f es, _, _, _, _, _, _, h, hx, q => wpEs_mono es (fun ds S1 q1 => hF _ _ _ _ _ _ _ (fun d S2 q2 => ⟨q2.1, h _ _ q2.2⟩) hx q1) hx q
  | .lc own t it c e, _, _, _, _, _, _, h, hx, q => by
    have hc : TMono (fun ρ S Q => wpE F c ρ S Q noX) := fun ρ S Q Q' k z => wpE_mono c k (fun _ _ z => z) z
    have he : TMono (fun ρ S Q => wpE F e ρ S Q noX) := fun ρ S Q Q' k z => wpE_mono e k (fun _ _ z => z) z
    exact wpIt_mono it (fun l G S1 q1 => wpLc_mono hc he (fun S => h _ S) l [] q1) hx q
  | .lc2 own t it own1 t1 it1 e, _, _, _, _, _, _, h, hx, q => by
    have hi : IMono (fun ρ S R => wpIt F it1 ρ S R noX) := fun ρ S R R' k z => wpIt_mono it1 k (fun _ _ z => z) z
    have he : TMono (fun ρ S Q => wpE F e ρ S Q noX) := fun ρ S Q Q' k z => wpE_mono e k (fun _ _ z => z) z
    exact wpIt_mono it (fun l G S1 q1 => wpLc2_mono hi he (fun S => h _ S) l [] q1) hx q
  | .orv a b, _, _, _, _, _, _, h, hx, q => wpE_mono a (fun x S1 q1 => by
      split at q1
      · exact wpE_mono b h hx q1
      · rename_i i
        by_cases e : i = 0
        · rw [if_pos e] at q1 ⊢
          exact wpE_mono b h hx q1
        · rw [if_neg e] at q1 ⊢
          exact h _ _ q1
      · exact q1) hx q
  | .ind neg a b, _, _, _, _, _, _, h, hx, q => wpE_mono a (fun x S1 q1 => wpE_mono b (fun y S2 q2 => inD_mono (fun k => h _ _) q2) hx q1) hx q
  | .lk e, _, _, _, _, _, _, h, _, q => by
    obtain ⟨n, kvs, g, q⟩ := q
    exact ⟨n, kvs, g, wpE_mono e (fun x S1 q1 => ⟨q1.1, h _ _ q1.2⟩) (fun _ _ z => z) q⟩
  | .nild a b, _, _, _, _, _, _, h, hx, q => wpE_mono a (fun x S1 q1 => wpE_mono b (fun y S2 q2 => nilD_mono (fun k => h _ _) q2) hx q1) hx q
  | .lenO e, _, _, _, _, _, _, h, hx, q => wpE_mono e (fun x S1 q1 => lenOD_mono (fun n => h _ _) q1) hx q
  | .inR neg x a b, _, _, _, _, _, _, h, hx, q => wpE_mono x (fun x S1 q1 => wpE_mono a (fun y S2 q2 => wpE_mono b (fun z S3 q3 => inRD_mono h q3) hx q2) hx q1) hx q
  | .methk c m f o es d ks, _, _, _, _, _, _, h, hx, q => wpE_mono o (fun x S1 q1 => by
      split at q1
      · exact ⟨q1.1, q1.2.1, wpEs_mono es (fun ds S2 q2 => wpEs_mono ks (fun zs S3 q3 => hF _ _ _ _ _ _ _ h hx q3) hx q2) hx q1.2.2⟩
      · exact q1) hx q
  | .gix _ kvs i, _, _, _, _, _, _, h, hx, q => wpE_mono i (fun y S1 q1 => gixD_mono h q1) hx q
  | .dctP, _, _, _, _, _, _, h, _, q => h _ _ q
  | .dictF e, _, _, _, _, _, _, h, hx, q => wpE_mono e (fun x S1 q1 => dictFD_mono h q1) hx q
  | .ixF o k, _, _, _, _, _, _, h, hx, q => wpE_mono o (fun x S1 q1 => wpE_mono k (fun y S2 q2 => ixFD_mono h q2) hx q1) hx q
  | .minF o, _, _, _, _, _, _, h, hx, q => wpE_mono o (fun x S1 q1 => minFD_mono h q1) hx q
  | .ixP o a b, _, _, _, _, _, _, h, hx, q => wpE_mono o (fun x S1 q1 => wpE_mono a (fun y S2 q2 => wpE_mono b (fun z S3 q3 => pIx_mono h q3) hx q2) hx q1) hx q
  | .inP neg a b o, _, _, _, _, _, _, h, hx, q => wpE_mono a (fun x S1 q1 => wpE_mono b (fun y S2 q2 => wpE_mono o (fun z S3 q3 => pIn_mono (fun k => h _ _) q3) hx q2) hx q1) hx q
  | .told ws e, _, _, Q, Q', _, _, h, _, q => by
    unfold wpE at *
    refine wpE_mono e (fun _ _ q => h _ _ q) (fun c S1 q => ?_) q
    split at q
    · exact h _ _ q
    · exact q
  | .dc own t it c e, _, _, _, _, _, _, h, hx, q => by
    have hc : TMono (fun ρ S Q => wpE F c ρ S Q noX) := fun ρ S Q Q' k z => wpE_mono c k (fun _ _ z => z) z
    have he : TMono (fun ρ S Q => wpE F e ρ S Q noX) := fun ρ S Q Q' k z => wpE_mono e k (fun _ _ z => z) z
    exact wpIt_mono it (fun l G S1 q1 => wpDc_mono hc he (fun S => h _ S) l [] q1) hx q
  | .tup es, _, _, _, _, _, _, h, hx, q => wpEs_mono es (fun xs S1 q1 => ⟨q1.1, h _ _ q1.2⟩) hx q
  | .lst es, _, _, _, _, _, _, h, hx, q => wpEs_mono es (fun xs S1 q1 => ⟨q1.1, h _ _ q1.2⟩) hx q
  | .call f es, _, _, _, _, _, _, h, hx, q => wpEs_mono es (fun xs S1 q1 => hF _ _ _ _ _ _ _ h hx q1) hx q
  | .calld f es d, _, _, _, _, _, _, h, hx, q => wpEs_mono es (fun xs S1 q1 => hF _ _ _ _ _ _ _ h hx q1) hx q
  | .callk f es k, _, _, _, _, _, _, h, hx, q => wpEs_mono es (fun xs S1 q1 => wpE_mono k (fun z S2 q2 => hF _ _ _ _ _ _ _ h hx q2) hx q1) hx q
  | .blt b es, _, _, _, _, _, _, h, hx, q => wpEs_mono es (fun xs S1 q1 => bt_mono h q1) hx q
theorem wpEs_mono : ∀ (es : Es) {ρ : Env} {S : Store} {Q Q' : List D → Store → Prop} {X X' : XK}, (∀ d S, Q d S → Q' d S) → (∀ c S, X c S → X' c S) → wpEs F es ρ S Q X → wpEs F es ρ S Q' X'
  | .nil, _, _, _, _, _, _, h, _, q => h _ _ q
  | .cons e es, _, _, _, _, _, _, h, hx, q => wpE_mono e (fun x S1 q1 => wpEs_mono es (fun xs S2 q2 => h _ _ q2) hx q1) hx q
theorem wpIt_mono : ∀ (it : It) {ρ : Env} {S : Store} {R R' : List D → (Store → Prop) → Store → Prop} {X X' : XK}, (∀ l G S, R l G S → R' l G S) → (∀ c S, X c S → X' c S) → wpIt F it ρ S R X → wpIt F it ρ S R' X'
  | .seq e, _, _, _, _, _, _, h, hx, q => wpE_mono e (fun x S1 q1 => itSeq_mono (fun l G => h l G S1) q1) hx q
  | .enum e, _, _, _, _, _, _, h, hx, q => wpE_mono e (fun x S1 q1 => itSeq_mono (fun l G => h _ G S1) q1) hx q
  | .rng a b, _, _, _, _, _, _, h, hx, q => wpE_mono a (fun x S1 q1 => wpE_mono b (fun y S2 q2 => by
      (repeat' split at q2) <;> first | exact ⟨q2.1, q2.2.1, q2.2.2.1, q2.2.2.2.1, h _ _ _ q2.2.2.2.2⟩ | exact q2) hx q1) hx q
  | .rngd a b, _, _, _, _, _, _, h, hx, q => wpE_mono a (fun x S1 q1 => wpE_mono b (fun y S2 q2 => by
      (repeat' split at q2) <;> first | exact ⟨q2.1, q2.2.1, q2.2.2.1, q2.2.2.2.1, h _ _ _ q2.2.2.2.2⟩ | exact q2) hx q1) hx q
  | .rng2 a b, _, _, _, _, _, _, h, hx, q => wpE_mono a (fun x S1 q1 => wpE_mono b (fun y S2 q2 => by
      (repeat' split at q2) <;> first | exact ⟨q2.1, q2.2.1, q2.2.2.1, q2.2.2.2.1, h _ _ _ q2.2.2.2.2⟩ | exact q2) hx q1) hx q
  | .keys e, _, _, _, _, _, _, h, hx, q => wpE_mono e (fun x S1 q1 => by
      split at q1
      · split at q1
        · exact h _ _ _ q1
        · exact h _ _ _ q1
        · exact q1
      · exact q1) hx q
  | .chars e, _, _, _, _, _, _, h, hx, q => wpE_mono e (fun x S1 q1 => by
      split at q1
      · exact h _ _ _ q1
      · exact q1) hx q
  | .vals e, _, _, _, _, _, _, h, hx, q => wpE_mono e (fun x S1 q1 => by
      split at q1
      · split at q1
        · exact h _ _ _ q1
        · exact q1
      · exact q1) hx q
end
end
theorem wpEs_len {F : Sem} (hF : SemMono F) : ∀ (es : Es) {ρ : Env} {S : Store} {Q : List D → Store → Prop} {X : XK}, wpEs F es ρ S Q X → wpEs F es ρ S (fun ds S => Q ds S ∧ ds.length = es.len) X
  | .nil, _, _, _, _, q => ⟨q, rfl⟩
  | .cons e es, _, _, _, _, q => wpE_mono hF e (fun x S1 q1 => wpEs_mono hF es (fun xs S2 q2 => ⟨q2.1, by rw [List.length_cons, q2.2]; rfl⟩) (fun _ _ z => z) (wpEs_len hF es q1)) (fun _ _ z => z) q
structure Ends.le (K K' : Ends) : Prop where
  nx : ∀ ρ S, K.nx ρ S → K'.nx ρ S
  rt : ∀ d S, K.rt d S → K'.rt d S
  bk : ∀ ρ S, K.bk ρ S → K'.bk ρ S
  ct : ∀ ρ S, K.ct ρ S → K'.ct ρ S
  xc : ∀ c S, K.xc c S → K'.xc c S
def BMono (b : Ends → Env → Store → Prop) : Prop := ∀ K K' ρ S, Ends.le K K' → b K ρ S → b K' ρ S
theorem wpFor_mono {t : Tg} {G : Store → Prop} {b : Ends → Env → Store → Prop} {K K' : Ends} (hb : BMono b) (h : Ends.le K K') : ∀ (l : List D) {ρ : Env} {S : Store}, wpFor t G b K l ρ S → wpFor t G b K' l ρ S
  | [], _, _, q => ⟨q.1, h.nx _ _ q.2⟩
  | d :: r, ρ, S, q => by
    refine ⟨q.1, ?_⟩
    have q2 := q.2
    split at q2
    · exact hb { K with nx := wpFor t G b K r, ct := wpFor t G b K r, bk := K.nx } _ _ _ ⟨fun _ _ => wpFor_mono hb h r, h.rt, h.nx, fun _ _ => wpFor_mono hb h r, h.xc⟩ q2
    · exact q2
theorem wpDs_mono {ev ev' : E → Env → Store → DK → Prop} {dl dr t : Nat} {b : Ends → Env → Store → Prop} {K K' : Ends} {fin fin' : Env → Store → Prop} (he : ∀ e ρ S (Q Q' : DK), (∀ d S, Q d S → Q' d S) → ev e ρ S Q → ev' e ρ S Q') (hb : BMono b) (h : Ends.le K K') (hf : ∀ ρ S, fin ρ S → fin' ρ S) : ∀ (es : List E) {ρ : Env} {S : Store}, wpDs ev dl dr t b K fin es ρ S → wpDs ev' dl dr t b K' fin' es ρ S
  | [], _, _, q => hf _ _ q
  | e :: es, _, _, q => ⟨q.1, he e _ _ _ _ (fun d S1 q1 => hb { nx := wpDs ev dl dr t b K fin es, rt := K.rt, bk := fun _ _ => False, ct := fun _ _ => False, xc := K.xc } _ _ _ ⟨fun _ _ q2 => wpDs_mono he hb h hf es q2, h.rt, fun _ _ z => z, fun _ _ z => z, h.xc⟩ q1) q.2⟩
theorem wpWh_mono {c c' : Env → Store → DK → Prop} {b : Ends → Env → Store → Prop} {K K' : Ends} (hc : ∀ ρ S (Q Q' : DK), (∀ d S, Q d S → Q' d S) → c ρ S Q → c' ρ S Q') (hb : BMono b) (h : Ends.le K K') : ∀ (n : Nat) {ρ : Env} {S : Store}, wpWh c b K n ρ S → wpWh c' b K' n ρ S
  | 0, _, _, q => q
  | n + 1, ρ, S, q => hc _ _ _ _ (fun x S1 q1 => by
      split at q1
      · exact hb { K with nx := wpWh c b K n, ct := wpWh c b K n, bk := K.nx } _ _ _ ⟨fun _ _ => wpWh_mono hc hb h n, h.rt, h.nx, fun _ _ => wpWh_mono hc hb h n, h.xc⟩ q1
      · exact h.nx _ _ q1
      · exact q1) q
section
variable {F : Sem} (hF : SemMono F)
include hF
theorem wpTms_mono : ∀ (ts : List Tm) {ds : List D} {nx nx' : Env → Store → Prop} {ρ : Env} {S : Store} {X X' : XK}, (∀ ρ S, nx ρ S → nx' ρ S) → (∀ c S, X c S → X' c S) → wpTms F ts ds nx ρ S X → wpTms F ts ds nx' ρ S X'
  | [], ds, _, _, _, _, _, _, h, _, q => by
    cases ds with
    | nil => exact h _ _ q
    | cons _ _ => exact q
  | .tg t :: ts, ds, _, _, ρ, _, _, _, h, hx, q => by
    cases ds with
    | nil => exact q
    | cons d r =>
      unfold wpTms at *
      dsimp only at q ⊢
      split at q
      · exact wpTms_mono ts h hx q
      · exact q
  | .sub o i :: ts, ds, _, _, _, _, _, _, h, hx, q => by
    cases ds with
    | nil => exact q
    | cons d r => exact wpE_mono hF o (fun y S2 q2 => wpE_mono hF i (fun z S3 q3 => setIx_mono (fun S4 q4 => wpTms_mono ts h hx q4) q3) hx q2) hx q
  | .att c o f :: ts, ds, _, _, _, _, _, _, h, hx, q => by
    cases ds with
    | nil => exact q
    | cons d r => exact wpE_mono hF o (fun y S2 q2 => setAt_mono (fun S3 q3 => wpTms_mono ts h hx q3) q2) hx q
mutual
theorem wpC_mono : ∀ (c : C) {K K' : Ends} {ρ : Env} {S : Store}, Ends.le K K' → wpC F c K ρ S → wpC F c K' ρ S
  | .bad, _, _, _, _, _, q => q
  | .set i e, _, _, _, _, h, q => wpE_mono hF e (fun x S1 => h.nx _ _) h.xc q
  | .asg t e, _, _, _, _, h, q => wpE_mono hF e (fun x S1 q1 => by
      split at q1
      · exact h.nx _ _ q1
      · exact q1) h.xc q
  | .asgm ts e, _, _, _, _, h, q => wpE_mono hF e (fun x S1 q1 => by
      split at q1
      · exact ⟨q1.1, wpTms_mono hF ts h.nx h.xc q1.2⟩
      · exact q1) h.xc q
  | .par i j a b, _, _, _, _, h, q => wpE_mono hF a (fun x S1 q1 => wpE_mono hF b (fun y S2 => h.nx _ _) h.xc q1) h.xc q
  | .star i j e, _, _, _, _, h, q => wpE_mono hF e (fun x S1 q1 => by
      split at q1
      · exact h.nx _ _ q1
      · exact q1) h.xc q
  | .unp i j e, _, _, _, _, h, q => wpE_mono hF e (fun x S1 q1 => by
      split at q1
      · exact h.nx _ _ q1
      · exact q1) h.xc q
  | .setA c o f e, _, _, _, _, h, q => wpE_mono hF e (fun x S1 q1 => wpE_mono hF o (fun y S2 q2 => setAt_mono (fun S => h.nx _ _) q2) h.xc q1) h.xc q
  | .aug i op e, _, _, ρ, _, h, q => by
    unfold wpC at *
    split at q
    · exact wpE_mono hF e (fun y S1 q1 => iop_mono (fun z S2 => h.nx _ _) q1) h.xc q
    · exact q
  | .augA c o f op e, _, _, _, _, h, q => wpE_mono hF o (fun x S1 q1 => by
      (repeat' split at q1) <;> first | exact ⟨q1.1, wpE_mono hF e (fun y S2 q2 => iop_mono (fun z S3 q3 => setAt_mono (fun S4 => h.nx _ _) q3) q2) h.xc q1.2⟩ | exact q1) h.xc q
  | .augX o i op e, _, _, _, _, h, q => wpE_mono hF o (fun x S1 q1 => wpE_mono hF i (fun y S2 q2 => ixD_mono (fun z S3 q3 => wpE_mono hF e (fun w S4 q4 => iop_mono (fun r S5 q5 => setIx_mono (fun S6 => h.nx _ _) q5) q4) h.xc q3) q2) h.xc q1) h.xc q
  | .pass, _, _, _, _, h, q => h.nx _ _ q
  | .raise c, _, _, _, _, h, q => h.xc _ _ q
  | .setIx o i e, _, _, _, _, h, q => wpE_mono hF e (fun x S1 q1 => wpE_mono hF o (fun y S2 q2 => wpE_mono hF i (fun z S3 q3 => setIx_mono (fun S => h.nx _ _) q3) h.xc q2) h.xc q1) h.xc q
  | .setP o a b e, _, _, _, _, h, q => wpE_mono hF e (fun x S1 q1 => wpE_mono hF o (fun y S2 q2 => wpE_mono hF a (fun z S3 q3 => wpE_mono hF b (fun w S4 q4 => pSet_mono (fun S => h.nx _ _) q4) h.xc q3) h.xc q2) h.xc q1) h.xc q
  | .ret e, _, _, _, _, h, q => wpE_mono hF e h.rt h.xc q
  | .ex e, _, _, _, _, h, q => wpE_mono hF e (fun x S1 => h.nx _ _) h.xc q
  | .cond c a b, _, _, _, _, h, q => wpE_mono hF c (fun x S1 q1 => by
      split at q1
      · exact wpCs_mono a h q1
      · exact wpCs_mono b h q1
      · exact q1) h.xc q
  | .whl c b, _, _, _, _, h, q => by
    obtain ⟨n, q⟩ := q
    have hb : BMono (wpCs F b) := fun K K' ρ S hk qq => wpCs_mono b hk qq
    refine ⟨n, wpWh_mono ?_ hb h n q⟩
    exact fun ρ S Q Q' hq qq => wpE_mono hF c hq h.xc qq
  | .for_ t it b, K, K', ρ, S, h, q => by
    have hb : BMono (wpCs F b) := fun K K' ρ S hk qq => wpCs_mono b hk qq
    exact wpIt_mono hF it (R := fun l G S1 => wpFor t G (wpCs F b) K l ρ S1) (fun l G S1 q1 => wpFor_mono hb h l q1) h.xc q
theorem wpCs_mono : ∀ (cs : Cs) {K K' : Ends} {ρ : Env} {S : Store}, Ends.le K K' → wpCs F cs K ρ S → wpCs F cs K' ρ S
  | .nil, _, _, _, _, h, q => h.nx _ _ q
  | .cons c cs, K, K', _, _, h, q => wpC_mono c (K := { K with nx := fun ρ1 S1 => wpCs F cs K ρ1 S1 }) ⟨fun ρ S q1 => wpCs_mono cs h q1, h.rt, h.bk, h.ct, h.xc⟩ q
  | .doors dl dr t ws e1 e2 e3 b r, K, K', ρ, S, h, q => by
    have hb : BMono (wpCs F b) := fun K K' ρ S hk qq => wpCs_mono b hk qq
    exact wpDs_mono (ev := fun e ρ S Q => wpE F e ρ S Q K.xc) (fun e ρ S Q Q' hq qq => wpE_mono hF e hq h.xc qq) hb h (fun ρ S z => wpCs_mono r h z) _ q
end
end
theorem callN_mono (P : Prog) : ∀ n, SemMono (callN P n)
  | 0 => fun _ _ _ _ _ _ _ _ _ q => q
  | n + 1 => fun f ds S Q Q' X X' h hx q => by
    unfold callN at *
    split at q
    · exact ⟨q.1, wpCs_mono (callN_mono P n) _ (K := rtEnds Q X) ⟨fun _ S => h _ S, h, fun _ _ z => z, fun _ _ z => z, hx⟩ q.2⟩
    · split at q
      · rename_i hf
        rw [if_pos hf]
        exact callN_mono P n _ _ _ _ _ _ _ h hx q
      · exact q.elim
end Mn
namespace Mn
open PySem PySem.Spec PyProof.Rows L2
abbrev Fg := PySem.W.Frag
def PersL (K : Fg) (H : Hp) (a : Addr) (vs : List V) : Prop := (∃ o, H a = some (.frz o (.lst vs))) ∨
  ∃ (o : Obj) (its : Array Value) (n : Nat), K.lookup a = some o ∧ o.cls = .type "list" ∧ o.dict = none ∧ o.data = .seq its n ∧ its.size ≤ sizeLine ∧ Vals vs its.toList
theorem PersL.sq {K : Fg} {H : Hp} {a : Addr} {vs : List V} (h : PersL K H a vs) : SqL K H a vs := by
  rcases h with ⟨o, h⟩ | h
  · exact .inl (.inr ⟨o, h⟩)
  · exact .inr h
mutual
inductive RD (K : Fg) (m : List Addr) (H : Hp) : D → V → Prop
  | non : RD K m H .non .non
  | bl (b : Bool) : RD K m H (.bl b) (.bl b)
  | int (i : Int) : RD K m H (.int i) (.int i)
  | str (x : Str) : RD K m H (.str x) (.str x)
  | tup {a : Addr} {vs : List V} {ds : List D} : SqT K H a vs → RDs K m H ds vs → RD K m H (.tup ds) (.ref a)
  | fl {a : Addr} {vs : List V} {ds : List D} : PersL K H a vs → RDs K m H ds vs → RD K m H (.fl ds) (.ref a)
  | ref {n : Nat} {a : Addr} : m[n]? = some a → RD K m H (.ref n) (.ref a)
inductive RDs (K : Fg) (m : List Addr) (H : Hp) : List D → List V → Prop
  | nil : RDs K m H [] []
  | cons {d : D} {ds : List D} {v : V} {vs : List V} : RD K m H d v → RDs K m H ds vs → RDs K m H (d :: ds) (v :: vs)
end
structure Le (m : List Addr) (H : Hp) (m' : List Addr) (H' : Hp) : Prop where
  pre : ∀ (n : Nat) (a : Addr), m[n]? = some a → m'[n]? = some a
  tup : ∀ (a : Addr) (vs : List V), H a = some (.tup vs) → H' a = some (.tup vs)
  frz : ∀ (a : Addr) (o : Obj) (u : HO), H a = some (.frz o u) → H' a = some (.frz o u)
  ext : ∀ (a : Addr) (φ : Heap → Prop), H a = some (.ext φ) → H' a = some (.ext φ)
theorem Le.refl (m : List Addr) (H : Hp) : Le m H m H := ⟨fun _ _ h => h, fun _ _ h => h, fun _ _ _ h => h, fun _ _ h => h⟩
theorem Le.trans {m m1 m2 : List Addr} {H H1 H2 : Hp} (x : Le m H m1 H1) (y : Le m1 H1 m2 H2) : Le m H m2 H2 :=
  ⟨fun n a h => y.pre n a (x.pre n a h), fun a vs h => y.tup a vs (x.tup a vs h), fun a o u h => y.frz a o u (x.frz a o u h), fun a φ h => y.ext a φ (x.ext a φ h)⟩
section
variable {K : Fg} {m m' : List Addr} {H H' : Hp}
theorem Le.sqT (x : Le m H m' H') {a : Addr} {vs : List V} (h : SqT K H a vs) : SqT K H' a vs := by
  rcases h with (h | ⟨o, h⟩) | h
  · exact .inl (.inl (x.tup _ _ h))
  · exact .inl (.inr ⟨o, x.frz _ _ _ h⟩)
  · exact .inr h
theorem Le.pers (x : Le m H m' H') {a : Addr} {vs : List V} (h : PersL K H a vs) : PersL K H' a vs := by
  rcases h with ⟨o, h⟩ | h
  · exact .inl ⟨o, x.frz _ _ _ h⟩
  · exact .inr h
mutual
theorem RD.mono (x : Le m H m' H') : ∀ {d : D} {v : V}, RD K m H d v → RD K m' H' d v
  | _, _, .non => .non
  | _, _, .bl b => .bl b
  | _, _, .int i => .int i
  | _, _, .str s => .str s
  | _, _, .tup h r => .tup (x.sqT h) (RDs.mono x r)
  | _, _, .fl h r => .fl (x.pers h) (RDs.mono x r)
  | _, _, .ref h => .ref (x.pre _ _ h)
theorem RDs.mono (x : Le m H m' H') : ∀ {ds : List D} {vs : List V}, RDs K m H ds vs → RDs K m' H' ds vs
  | _, _, .nil => .nil
  | _, _, .cons r rs => .cons (RD.mono x r) (RDs.mono x rs)
end
theorem RDs.length : ∀ {ds : List D} {vs : List V}, RDs K m H ds vs → ds.length = vs.length
  | _, _, .nil => rfl
  | _, _, .cons _ rs => by rw [List.length_cons, List.length_cons, RDs.length rs]
theorem RDs.get : ∀ {ds : List D} {vs : List V} {i : Nat} {d : D}, RDs K m H ds vs → ds[i]? = some d → ∃ v, vs[i]? = some v ∧ RD K m H d v
  | _, _, _, _, .nil, e => by simp at e
  | _, _, 0, _, .cons r _, e => by simp at e; subst e; exact ⟨_, rfl, r⟩
  | _, _, i + 1, d, .cons _ t, e => by
    obtain ⟨u, h1, h2⟩ := RDs.get (i := i) (d := d) t (by simpa using e)
    exact ⟨u, by simpa using h1, h2⟩
theorem RDs.getV : ∀ {ds : List D} {vs : List V} {i : Nat} {v : V}, RDs K m H ds vs → vs[i]? = some v → ∃ d, ds[i]? = some d ∧ RD K m H d v
  | _, _, _, _, .nil, e => by simp at e
  | _, _, 0, _, .cons r _, e => by simp at e; subst e; exact ⟨_, rfl, r⟩
  | _, _, i + 1, d, .cons _ t, e => by
    obtain ⟨u, h1, h2⟩ := RDs.getV (i := i) (v := d) t (by simpa using e)
    exact ⟨u, by simpa using h1, h2⟩
theorem RDs.append : ∀ {ds es : List D} {vs us : List V}, RDs K m H ds vs → RDs K m H es us → RDs K m H (ds ++ es) (vs ++ us)
  | _, _, _, _, .nil, s => s
  | _, _, _, _, .cons r t, s => .cons r (RDs.append t s)
theorem RDs.take : ∀ {ds : List D} {vs : List V} (n : Nat), RDs K m H ds vs → RDs K m H (ds.take n) (vs.take n)
  | _, _, 0, _ => .nil
  | _, _, _ + 1, .nil => .nil
  | _, _, n + 1, .cons r t => .cons r (RDs.take n t)
theorem RDs.drop : ∀ {ds : List D} {vs : List V} (n : Nat), RDs K m H ds vs → RDs K m H (ds.drop n) (vs.drop n)
  | _, _, 0, r => r
  | _, _, _ + 1, .nil => .nil
  | _, _, n + 1, .cons _ t => RDs.drop n t
theorem RDs.set {d : D} {v : V} (r : RD K m H d v) : ∀ {ds : List D} {vs : List V} (i : Nat), RDs K m H ds vs → RDs K m H (ds.set i d) (vs.set i v)
  | _, _, _, .nil => .nil
  | _, _, 0, .cons _ t => .cons r t
  | _, _, i + 1, .cons q t => .cons q (RDs.set r i t)
theorem RDs.eraseIdx : ∀ {ds : List D} {vs : List V} (i : Nat), RDs K m H ds vs → RDs K m H (ds.eraseIdx i) (vs.eraseIdx i)
  | _, _, _, .nil => .nil
  | _, _, 0, .cons _ t => t
  | _, _, i + 1, .cons q t => .cons q (RDs.eraseIdx i t)
theorem RDs.reverse {ds : List D} {vs : List V} (r : RDs K m H ds vs) : RDs K m H ds.reverse vs.reverse := by
  induction ds generalizing vs with
  | nil => cases r; exact .nil
  | cons d ds ih =>
    cases r with
    | cons q t =>
      rw [List.reverse_cons, List.reverse_cons]
      exact (ih t).append (.cons q .nil)
theorem RDs.replicate {ds : List D} {vs : List V} (r : RDs K m H ds vs) : ∀ n : Nat, RDs K m H (List.replicate n ds).flatten (List.replicate n vs).flatten
  | 0 => .nil
  | n + 1 => by
    rw [List.replicate_succ, List.replicate_succ, List.flatten_cons, List.flatten_cons]
    exact r.append (RDs.replicate r n)
end
inductive KR {κ : Type} (K : Fg) (m : List Addr) (H : Hp) : List (κ × D) → List (κ × V) → Prop
  | nil : KR K m H [] []
  | cons {k : κ} {d : D} {v : V} {l : List (κ × D)} {kvs : List (κ × V)} : RD K m H d v → KR K m H l kvs → KR K m H ((k, d) :: l) ((k, v) :: kvs)
section
variable {κ : Type} {K : Fg} {m m' : List Addr} {H H' : Hp}
theorem KR.mono (x : Le m H m' H') : ∀ {l : List (κ × D)} {kvs : List (κ × V)}, KR K m H l kvs → KR K m' H' l kvs
  | _, _, .nil => .nil
  | _, _, .cons r q => .cons (r.mono x) (KR.mono x q)
theorem KR.length : ∀ {l : List (κ × D)} {kvs : List (κ × V)}, KR K m H l kvs → l.length = kvs.length
  | _, _, .nil => rfl
  | _, _, .cons _ q => by rw [List.length_cons, List.length_cons, KR.length q]
theorem KR.get [DecidableEq κ] (k : κ) : ∀ {l : List (κ × D)} {kvs : List (κ × V)}, KR K m H l kvs → (∃ d v, (l.find? fun kv => decide (kv.1 = k)).map (·.2) = some d ∧ valV kvs k = some v ∧ RD K m H d v) ∨ ((l.find? fun kv => decide (kv.1 = k)).map (·.2) = none ∧ valV kvs k = none)
  | _, _, .nil => .inr ⟨rfl, rfl⟩
  | _, _, .cons (k := c) r q => by
    by_cases e : c = k
    · subst e
      exact .inl ⟨_, _, by simp, by simp [valV], r⟩
    · rcases KR.get k q with ⟨d, v, h1, h2, h3⟩ | ⟨h1, h2⟩
      · exact .inl ⟨d, v, by rw [List.find?_cons]; simpa [e] using h1, by rw [valV_neg e]; exact h2, h3⟩
      · exact .inr ⟨by rw [List.find?_cons]; simpa [e] using h1, by rw [valV_neg e]; exact h2⟩
theorem KR.any [DecidableEq κ] (k : κ) : ∀ {l : List (κ × D)} {kvs : List (κ × V)}, KR K m H l kvs → (l.any fun kv => decide (kv.1 = k)) = kvs.any fun kv => decide (kv.1 = k)
  | _, _, .nil => rfl
  | _, _, .cons r q => by rw [List.any_cons, List.any_cons, KR.any k q]
theorem KR.append : ∀ {l l' : List (κ × D)} {kvs kvs' : List (κ × V)}, KR K m H l kvs → KR K m H l' kvs' → KR K m H (l ++ l') (kvs ++ kvs')
  | _, _, _, _, .nil, s => s
  | _, _, _, _, .cons r q, s => .cons r (KR.append q s)
theorem KR.upd [DecidableEq κ] {k : κ} {d : D} {v : V} (rd : RD K m H d v) : ∀ {l : List (κ × D)} {kvs : List (κ × V)}, KR K m H l kvs → KR K m H (l.map fun kv => if kv.1 = k then (kv.1, d) else kv) (kvs.map fun kv => if kv.1 = k then (kv.1, v) else kv)
  | _, _, .nil => .nil
  | _, _, .cons (k := c) r q => by
    rw [List.map_cons, List.map_cons]
    by_cases e : c = k
    · simp only [e, if_true]
      exact .cons rd (KR.upd rd q)
    · simp only [e, if_false]
      exact .cons r (KR.upd rd q)
theorem KR.drop [DecidableEq κ] (k : κ) : ∀ {l : List (κ × D)} {kvs : List (κ × V)}, KR K m H l kvs → KR K m H (l.filter fun kv => decide (kv.1 ≠ k)) (kvs.filter fun kv => decide (kv.1 ≠ k))
  | _, _, .nil => .nil
  | _, _, .cons (k := c) r q => by
    rw [List.filter_cons, List.filter_cons]
    by_cases e : c = k
    · simp only [e]
      simpa using KR.drop k q
    · simp only [ne_eq, e, not_false_eq_true, decide_true, if_true]
      exact .cons r (KR.drop k q)
theorem KR.lookup [BEq κ] (k : κ) : ∀ {l : List (κ × D)} {kvs : List (κ × V)}, KR K m H l kvs → (∃ d v, l.lookup k = some d ∧ kvs.lookup k = some v ∧ RD K m H d v) ∨ (l.lookup k = none ∧ kvs.lookup k = none)
  | _, _, .nil => .inr ⟨rfl, rfl⟩
  | _, _, .cons (k := c) r q => by
    rw [List.lookup_cons, List.lookup_cons]
    cases k == c with
    | true => exact .inl ⟨_, _, rfl, rfl, r⟩
    | false => exact KR.lookup k q
end
structure Ca where
  f : Nat → Option Addr
  T : List (Addr × Str)
instance : CoeFun Ca fun _ => Nat → Option Addr := ⟨Ca.f⟩
structure Cl where
  at_ : Ca
  ok : List Addr → Hp → Prop
  mono : ∀ m H m' H', Le m H m' H' → ok m H → ok m' H'
  E : L2.XK
instance : CoeFun Cl fun _ => Nat → Option Addr := ⟨fun c => c.at_.f⟩
inductive FR (K : Fg) (H : Hp) : List ((Int × Int) × Int) → List (Addr × (Int × Int) × Value) → Prop where
  | nil : FR K H [] []
  | cons {p : Int × Int} {k : Int} {b : Addr} {t : Tok} {l : List ((Int × Int) × Int)} {xs : List (Addr × (Int × Int) × Value)} : SqT K H b [.int p.1, .int p.2] → FR K H l xs → FR K H ((p, k) :: l) ((b, p, .int k t) :: xs)
theorem FR.mono {K : Fg} {m m' : List Addr} {H H' : Hp} (x : Le m H m' H') {l : List ((Int × Int) × Int)} {xs : List (Addr × (Int × Int) × Value)} (h : FR K H l xs) : FR K H' l xs := by
  induction h with
  | nil => exact .nil
  | cons h _ ih => exact .cons (x.sqT h) ih
def entF (x : Addr × (Int × Int) × Value) : DictEntry := ⟨hashT [x.2.1.1, x.2.1.2], .ref x.1, x.2.2⟩
def FdAt (K : Fg) (H : Hp) (a : Addr) (l : List ((Int × Int) × Int)) : Prop := ∃ (o : Obj) (es : Array DictEntry) (ep : Nat) (xs : List (Addr × (Int × Int) × Value)), H a = some (.frz o (.ext fun h => h.get? a = some o)) ∧ (a == sysModules) = false ∧ o.ExactDict ∧ o.data = .dict es ep ∧ es.toList = xs.map entF ∧ FR K H l xs ∧ (l.map (·.1)).Nodup
theorem FdAt.mono {K : Fg} {m m' : List Addr} {H H' : Hp} {a : Addr} {l : List ((Int × Int) × Int)} (x : Le m H m' H') (h : FdAt K H a l) : FdAt K H' a l := by
  obtain ⟨o, es, ep, xs, h1, h2, h3, h4, h5, h6, h7⟩ := h
  exact ⟨o, es, ep, xs, x.frz _ _ _ h1, h2, h3, h4, h5, h6.mono x, h7⟩
def RO (K : Fg) (cl : Cl) (m : List Addr) (H : Hp) (a : Addr) : Ob → Prop
  | .lst l => ∃ vs, H a = some (.lst vs) ∧ RDs K m H l vs
  | .dct l => ∃ kvs, H a = some (.dK kvs) ∧ KR K m H l kvs
  | .fdct l => ∃ o kvs, H a = some (.frz o (.dK kvs)) ∧ KR K m H l kvs
  | .dtp l => ∃ kvs, H a = some (.dT kvs) ∧ KR K m H l kvs
  | .fdi l => FdAt K H a l
  | .ins c fs => ∃ C dx gs, cl c = some C ∧ H a = some (.ins C dx gs) ∧ KR K m H fs gs
structure RS (K : Fg) (cl : Cl) (m : List Addr) (H : Hp) (S : Store) : Prop where
  len : m.length = S.length
  nd : ∀ (i j : Nat) (a : Addr), m[i]? = some a → m[j]? = some a → i = j
  at_ : ∀ (n : Nat) (a : Addr) (o : Ob), m[n]? = some a → S[n]? = some o → RO K cl m H a o
  gr : cl.ok m H
  tb : LamX.Tabs cl.at_.T H
section
variable {K : Fg} {cl : Cl} {m m' : List Addr} {H H' : Hp} {S : Store} {a : Addr} {o : Ob}
theorem RO.there (r : RO K cl m H a o) : ∃ u, H a = some u := by
  cases o with
  | lst l => obtain ⟨vs, h, _⟩ := r; exact ⟨_, h⟩
  | dct l => obtain ⟨vs, h, _⟩ := r; exact ⟨_, h⟩
  | fdct l => obtain ⟨o, vs, h, _⟩ := r; exact ⟨_, h⟩
  | dtp l => obtain ⟨vs, h, _⟩ := r; exact ⟨_, h⟩
  | fdi l => obtain ⟨_, _, _, _, h, _⟩ := r; exact ⟨_, h⟩
  | ins c fs => obtain ⟨C, dx, gs, _, h, _⟩ := r; exact ⟨_, h⟩
theorem RO.no_tbl (r : RO K cl m H a o) {ps : Array Value} (h : H a = some (.tbl ps)) : False := by
  cases o with
  | lst l => obtain ⟨vs, q, _⟩ := r; rw [h] at q; cases q
  | dct l => obtain ⟨vs, q, _⟩ := r; rw [h] at q; cases q
  | fdct l => obtain ⟨o, vs, q, _⟩ := r; rw [h] at q; cases q
  | dtp l => obtain ⟨vs, q, _⟩ := r; rw [h] at q; cases q
  | fdi l => obtain ⟨_, _, _, _, q, _⟩ := r; rw [h] at q; cases q
  | ins c fs => obtain ⟨C, dx, gs, _, q, _⟩ := r; rw [h] at q; cases q
theorem RO.keep (r : RO K cl m H a o) (x : Le m H m' H') (k : ∀ u, H a = some u → H' a = some u) : RO K cl m' H' a o := by
  cases o with
  | lst l => obtain ⟨vs, h, q⟩ := r; exact ⟨vs, k _ h, q.mono x⟩
  | dct l => obtain ⟨vs, h, q⟩ := r; exact ⟨vs, k _ h, q.mono x⟩
  | fdct l => obtain ⟨o, vs, h, q⟩ := r; exact ⟨o, vs, k _ h, q.mono x⟩
  | dtp l => obtain ⟨vs, h, q⟩ := r; exact ⟨vs, k _ h, q.mono x⟩
  | fdi l => exact FdAt.mono x r
  | ins c fs => obtain ⟨C, dx, gs, hc, h, q⟩ := r; exact ⟨C, dx, gs, hc, k _ h, q.mono x⟩
theorem RS.get (R : RS K cl m H S) {n : Nat} {o : Ob} (e : S[n]? = some o) : ∃ a, m[n]? = some a ∧ RO K cl m H a o := by
  have h1 : n < S.length := (List.getElem?_eq_some_iff.mp e).1
  have h2 : n < m.length := by rw [R.len]; exact h1
  exact ⟨m[n], List.getElem?_eq_getElem h2, R.at_ _ _ _ (List.getElem?_eq_getElem h2) e⟩
theorem RS.obj (R : RS K cl m H S) {n : Nat} {a : Addr} (e : m[n]? = some a) : ∃ o, S[n]? = some o ∧ RO K cl m H a o := by
  have h1 : n < m.length := (List.getElem?_eq_some_iff.mp e).1
  have h2 : n < S.length := by rw [← R.len]; exact h1
  exact ⟨S[n], List.getElem?_eq_getElem h2, R.at_ _ _ _ e (List.getElem?_eq_getElem h2)⟩
theorem RS.there (R : RS K cl m H S) {n : Nat} {a : Addr} (e : m[n]? = some a) : ∃ u, H a = some u := let ⟨_, _, r⟩ := R.obj e; r.there
theorem le_new {p : Addr} {u : HO} (np : H p = none) : Le m H m (upd H p u) :=
  ⟨fun _ _ h => h, fun b vs h => by rw [upd_ne (ne_of_none h np)]; exact h, fun b o v h => by rw [upd_ne (ne_of_none h np)]; exact h, fun b φ h => by rw [upd_ne (ne_of_none h np)]; exact h⟩
theorem tabs_new {T : List (Addr × Str)} {p : Addr} {u : HO} (np : H p = none) (h : LamX.Tabs T H) : LamX.Tabs T (upd H p u) := h.ext fun b o q => by rw [upd_ne (ne_of_none q np)]; exact q
theorem RS.new (R : RS K cl m H S) {p : Addr} {u : HO} (np : H p = none) : RS K cl m (upd H p u) S :=
  ⟨R.len, R.nd, fun n a o e1 e2 => (R.at_ n a o e1 e2).keep (le_new np) (fun v h => by rw [upd_ne (ne_of_none h np)]; exact h), cl.mono _ _ _ _ (le_new np) R.gr, tabs_new np R.tb⟩
inductive NewH : Hp → Hp → Prop
  | refl (H : Hp) : NewH H H
  | step {H H1 : Hp} (p : Addr) (u : HO) : NewH H H1 → H1 p = none → NewH H (upd H1 p u)
theorem NewH.le {H H1 : Hp} (x : NewH H H1) (m : List Addr) : Le m H m H1 := by
  induction x with
  | refl => exact Le.refl _ _
  | step p u _ np ih => exact ih.trans (le_new np)
theorem RS.newH {H H1 : Hp} (x : NewH H H1) (R : RS K cl m H S) : RS K cl m H1 S := by
  induction x with
  | refl => exact R
  | step p u _ np ih => exact ih.new np
theorem NewH.trans {H H1 H2 : Hp} (x : NewH H H1) (y : NewH H1 H2) : NewH H H2 := by
  induction y with
  | refl => exact x
  | step p u _ np ih => exact .step p u ih np
theorem le_push {p : Addr} {u : HO} (np : H p = none) : Le m H (m ++ [p]) (upd H p u) :=
  ⟨fun n a h => by rw [List.getElem?_append_left (List.getElem?_eq_some_iff.mp h).1]; exact h, (le_new (m := m) np).tup, (le_new (m := m) np).frz, (le_new (m := m) np).ext⟩
theorem RS.push (R : RS K cl m H S) {p : Addr} {u : HO} {o : Ob} (np : H p = none) (r : RO K cl (m ++ [p]) (upd H p u) p o) : RS K cl (m ++ [p]) (upd H p u) (S ++ [o]) where
  len := by rw [List.length_append, List.length_append, R.len]; rfl
  nd := fun i j a hi hj => by
    have key : ∀ k, (m ++ [p])[k]? = some a → (m[k]? = some a ∧ a ≠ p) ∨ (k = m.length ∧ a = p) := fun k hk => by
      by_cases hl : k < m.length
      · rw [List.getElem?_append_left hl] at hk
        obtain ⟨v, hv⟩ := R.there hk
        exact .inl ⟨hk, ne_of_none hv np⟩
      · rw [List.getElem?_append_right (by omega)] at hk
        have h0 : k - m.length = 0 := by
          have := (List.getElem?_eq_some_iff.mp hk).1
          simp at this
          omega
        rw [h0] at hk
        simp at hk
        exact .inr ⟨by omega, hk.symm⟩
    rcases key i hi with ⟨h1, h2⟩ | ⟨h1, h2⟩ <;> rcases key j hj with ⟨h3, h4⟩ | ⟨h3, h4⟩
    · exact R.nd i j a h1 h3
    · exact absurd h4 h2
    · exact absurd h2 h4
    · omega
  at_ := fun n a o' e1 e2 => by
    by_cases hl : n < m.length
    · rw [List.getElem?_append_left hl] at e1
      rw [List.getElem?_append_left (by rw [← R.len]; exact hl)] at e2
      exact (R.at_ n a o' e1 e2).keep (le_push np) (fun v h => by rw [upd_ne (ne_of_none h np)]; exact h)
    · have hn : n = m.length := by
        have := (List.getElem?_eq_some_iff.mp e1).1
        simp at this
        omega
      subst hn
      rw [List.getElem?_append_right (by omega)] at e1
      rw [List.getElem?_append_right (by rw [R.len]; omega)] at e2
      have l := R.len
      simp [l] at e1 e2
      subst e1; subst e2
      exact r
  gr := cl.mono _ _ _ _ (le_push np) R.gr
  tb := tabs_new np R.tb
theorem RS.pushL (R : RS K cl m H S) {p : Addr} {ds : List D} {vs : List V} (np : H p = none) (r : RDs K m H ds vs) : RS K cl (m ++ [p]) (upd H p (.lst vs)) (S ++ [.lst ds]) :=
  R.push np ⟨vs, upd_same, r.mono (le_push np)⟩
theorem RS.last (R : RS K cl m H S) (p : Addr) : (m ++ [p])[S.length]? = some p := by
  rw [← R.len]
  simp
def Mu : HO → Prop
  | .lst _ => True
  | .dK _ => True
  | .dT _ => True
  | .ins _ _ _ => True
  | _ => False
theorem le_set {u u0 : HO} (h0 : H a = some u0) (mu : Mu u0) : Le m H m (upd H a u) := by
  have ne : ∀ {b : Addr} {v : HO}, H b = some v → ¬ Mu v → b ≠ a := fun {b v} h n z => by
    rw [z, h0] at h
    cases h
    exact n mu
  refine ⟨fun _ _ h => h, fun b vs h => ?_, fun b o v h => ?_, fun b φ h => ?_⟩
  · rw [upd_ne (ne h fun z => z)]; exact h
  · rw [upd_ne (ne h fun z => z)]; exact h
  · rw [upd_ne (ne h fun z => z)]; exact h
theorem tabs_set {T : List (Addr × Str)} {u u0 : HO} (h0 : H a = some u0) (mu : Mu u0) (h : LamX.Tabs T H) : LamX.Tabs T (upd H a u) := by
  have ne : ∀ {b : Addr} {v : HO}, H b = some v → ¬ Mu v → b ≠ a := fun {b v} h n z => by
    rw [z, h0] at h
    cases h
    exact n mu
  intro p hp
  obtain ⟨ps, h1, h2, h3⟩ := h p hp
  refine ⟨ps, by rw [upd_ne (ne h1 fun z => z)]; exact h1, h2, fun pos cv hc => ?_⟩
  obtain ⟨c, e, q⟩ := h3 pos cv hc
  exact ⟨c, e, by rw [upd_ne (ne q fun z => z)]; exact q⟩
theorem RS.set (R : RS K cl m H S) {n : Nat} {u u0 : HO} {o : Ob} (e : m[n]? = some a) (h0 : H a = some u0) (mu : Mu u0) (r : RO K cl m (upd H a u) a o) : RS K cl m (upd H a u) (S.set n o) where
  len := by rw [List.length_set]; exact R.len
  nd := R.nd
  at_ := fun k b o' e1 e2 => by
    by_cases hk : k = n
    · subst hk
      rw [e] at e1; cases e1
      have hl : k < S.length := by rw [← R.len]; exact (List.getElem?_eq_some_iff.mp e).1
      rw [List.getElem?_set_self hl] at e2
      cases e2
      exact r
    · rw [List.getElem?_set_ne (Ne.symm hk)] at e2
      have hb : b ≠ a := fun z => hk (R.nd k n a (z ▸ e1) e)
      exact (R.at_ k b o' e1 e2).keep (le_set h0 mu) (fun v h => by rw [upd_ne hb]; exact h)
  gr := cl.mono _ _ _ _ (le_set h0 mu) R.gr
  tb := tabs_set h0 mu R.tb
end
structure Lw (m : List Addr) (H : Hp) (m' : List Addr) (H' : Hp) : Prop where
  pre : ∀ (n : Nat) (a : Addr), m[n]? = some a → m'[n]? = some a
  tup : ∀ (a : Addr) (vs : List V), H a = some (.tup vs) → H' a = some (.tup vs)
  ft : ∀ (a : Addr) (o : Obj) (vs : List V), H a = some (.frz o (.tup vs)) → H' a = some (.frz o (.tup vs))
  fl : ∀ (a : Addr) (o : Obj) (vs : List V), H a = some (.frz o (.lst vs)) → H' a = some (.frz o (.lst vs))
section
variable {K : Fg} {cl : Cl} {m m' : List Addr} {H H' : Hp} {S : Store} {a : Addr}
mutual
theorem RD.monoW (x : Lw m H m' H') : ∀ {d : D} {v : V}, RD K m H d v → RD K m' H' d v
  | _, _, .non => .non
  | _, _, .bl b => .bl b
  | _, _, .int i => .int i
  | _, _, .str s => .str s
  | _, _, .tup h r => .tup (by
      rcases h with (h | ⟨o, h⟩) | h
      · exact .inl (.inl (x.tup _ _ h))
      · exact .inl (.inr ⟨o, x.ft _ _ _ h⟩)
      · exact .inr h) (RDs.monoW x r)
  | _, _, .fl h r => .fl (by
      rcases h with ⟨o, h⟩ | h
      · exact .inl ⟨o, x.fl _ _ _ h⟩
      · exact .inr h) (RDs.monoW x r)
  | _, _, .ref h => .ref (x.pre _ _ h)
theorem RDs.monoW (x : Lw m H m' H') : ∀ {ds : List D} {vs : List V}, RDs K m H ds vs → RDs K m' H' ds vs
  | _, _, .nil => .nil
  | _, _, .cons r rs => .cons (RD.monoW x r) (RDs.monoW x rs)
end
theorem KR.monoW {κ : Type} (x : Lw m H m' H') : ∀ {l : List (κ × D)} {kvs : List (κ × V)}, KR K m H l kvs → KR K m' H' l kvs
  | _, _, .nil => .nil
  | _, _, .cons r q => .cons (r.monoW x) (KR.monoW x q)
theorem Lw.sqT (x : Lw m H m' H') {a : Addr} {vs : List V} (h : SqT K H a vs) : SqT K H' a vs := by
  rcases h with (h | ⟨o, h⟩) | h
  · exact .inl (.inl (x.tup _ _ h))
  · exact .inl (.inr ⟨o, x.ft _ _ _ h⟩)
  · exact .inr h
theorem FR.monoW (x : Lw m H m' H') {l : List ((Int × Int) × Int)} {xs : List (Addr × (Int × Int) × Value)} (h : FR K H l xs) : FR K H' l xs := by
  induction h with
  | nil => exact .nil
  | cons h _ ih => exact .cons (x.sqT h) ih
theorem FdAt.monoW {l : List ((Int × Int) × Int)} (x : Lw m H m' H') (h : FdAt K H a l) (k : ∀ v, H a = some v → H' a = some v) : FdAt K H' a l := by
  obtain ⟨o, es, ep, xs, h1, h2, h3, h4, h5, h6, h7⟩ := h
  exact ⟨o, es, ep, xs, k _ h1, h2, h3, h4, h5, h6.monoW x, h7⟩
theorem RO.keepW (x : Lw m H m' H') {o : Ob} (r : RO K cl m H a o) (k : ∀ v, H a = some v → H' a = some v) : RO K cl m' H' a o := by
  cases o with
  | lst l => obtain ⟨vs, h, q⟩ := r; exact ⟨vs, k _ h, q.monoW x⟩
  | dct l => obtain ⟨vs, h, q⟩ := r; exact ⟨vs, k _ h, q.monoW x⟩
  | fdct l => obtain ⟨o, vs, h, q⟩ := r; exact ⟨o, vs, k _ h, q.monoW x⟩
  | dtp l => obtain ⟨vs, h, q⟩ := r; exact ⟨vs, k _ h, q.monoW x⟩
  | fdi l => exact FdAt.monoW x r k
  | ins c fs => obtain ⟨C, dx, gs, hc, h, q⟩ := r; exact ⟨C, dx, gs, hc, k _ h, q.monoW x⟩
theorem lw_unl {od : Obj} {l : List (Key × V)} (h : H a = some (.frz od (.dK l))) : Lw m H m (upd H a (.dK l)) :=
  ⟨fun _ _ h => h, fun b vs e => by rw [upd_ne fun z => by (rw [z, h] at e; cases e)]; exact e, fun b o vs e => by rw [upd_ne fun z => by (rw [z, h] at e; cases e)]; exact e, fun b o vs e => by rw [upd_ne fun z => by (rw [z, h] at e; cases e)]; exact e⟩
theorem RS.unl (R : RS K cl m H S) {n : Nat} {od : Obj} {l : List (Key × V)} {kvs : List (Key × D)} (e : m[n]? = some a) (h : H a = some (.frz od (.dK l))) (q : KR K m (upd H a (.dK l)) kvs l) (ok : cl.ok m (upd H a (.dK l))) : RS K cl m (upd H a (.dK l)) (S.set n (.dct kvs)) where
  len := by rw [List.length_set]; exact R.len
  nd := R.nd
  at_ := fun k b o' e1 e2 => by
    by_cases hk : k = n
    · subst hk
      rw [e] at e1; cases e1
      have hl : k < S.length := by rw [← R.len]; exact (List.getElem?_eq_some_iff.mp e).1
      rw [List.getElem?_set_self hl] at e2
      cases e2
      exact ⟨l, upd_same, q⟩
    · rw [List.getElem?_set_ne (Ne.symm hk)] at e2
      have hb : b ≠ a := fun z => hk (R.nd k n a (z ▸ e1) e)
      exact (R.at_ k b o' e1 e2).keepW (lw_unl h) (fun v h => by rw [upd_ne hb]; exact h)
  gr := ok
  tb := fun p hp => by
    obtain ⟨ps, h1, h2, h3⟩ := R.tb p hp
    refine ⟨ps, by rw [upd_ne fun z => by (rw [z, h] at h1; cases h1)]; exact h1, h2, fun pos cv hc => ?_⟩
    obtain ⟨c, e, q⟩ := h3 pos cv hc
    exact ⟨c, e, by rw [upd_ne fun z => by (rw [z, h] at q; cases q)]; exact q⟩
end
structure RE (K : Fg) (m : List Addr) (H : Hp) (ρ : Env) (σ : L2.St) : Prop where
  len : ρ.length = σ.length
  at_ : ∀ (i : Nat) (d : D), ρ[i]? = some (some d) → ∃ v, σ[i]? = some (some v) ∧ RD K m H d v
section
variable {K : Fg} {m m' : List Addr} {H H' : Hp} {ρ : Env} {σ : L2.St}
theorem RE.mono (r : RE K m H ρ σ) (x : Le m H m' H') : RE K m' H' ρ σ := ⟨r.len, fun i d e => let ⟨v, h, q⟩ := r.at_ i d e; ⟨v, h, q.mono x⟩⟩
theorem RE.set (r : RE K m H ρ σ) {d : D} {v : V} (q : RD K m H d v) (i : Nat) : RE K m H (ρ.set i (some d)) (σ.set i (some v)) := by
  refine ⟨by rw [List.length_set, List.length_set]; exact r.len, fun j c e => ?_⟩
  by_cases h : j = i
  · subst h
    by_cases hl : j < ρ.length
    · rw [List.getElem?_set_self hl] at e
      cases e
      exact ⟨v, by rw [List.getElem?_set_self (by rw [← r.len]; exact hl)], q⟩
    · rw [List.getElem?_eq_none (by rw [List.length_set]; omega)] at e
      cases e
  · rw [List.getElem?_set_ne (Ne.symm h)] at e ⊢
    exact r.at_ j c e
end
end Mn
namespace Mn
open PySem PySem.Spec PyProof.Rows L2
def upX (K : Fg) (cl : Cl) : Mn.XK := fun c S => ∀ (m' : List Addr) (H' : Hp) (C : Addr), RS K cl m' H' S → cl c = some C → cl.E (.ref C) none H'
def Cl.noE (cl : Cl) : Cl := { cl with E := fun _ _ _ => False }
theorem RS.noE {K : Fg} {cl : Cl} {m : List Addr} {H : Hp} {S : Store} (R : RS K cl m H S) : RS K cl.noE m H S := ⟨R.len, R.nd, R.at_, R.gr, R.tb⟩
theorem RS.ofE {K : Fg} {cl : Cl} {m : List Addr} {H : Hp} {S : Store} (R : RS K cl.noE m H S) : RS K cl m H S := ⟨R.len, R.nd, R.at_, R.gr, R.tb⟩
def up (K : Fg) (cl : Cl) (m : List Addr) (H : Hp) (Q : VK) : DK := fun d S' => ∀ (m' : List Addr) (H' : Hp) (v : V), Le m H m' H' → RS K cl m' H' S' → RD K m' H' d v → Q v H'
theorem lim_le : lim ≤ sizeLine := by rw [sizeLine_eq]; decide
section
variable {X : Cx} {cl : Cl}
def rCatS (K : Fg) : R2 := fun x y H Q => ∃ l b xs zs, x = .ref l ∧ y = .ref b ∧ SqL K H l xs ∧ SqL K H b zs ∧ xs.length + zs.length ≤ sizeLine ∧ ∀ p, H p = none → Q (.ref p) (upd H p (.lst (xs ++ zs)))
theorem op_catS : OpR X (binaryOp .Add) (rCatS X.K) := by
  intro pins s σ H x y v u Q I rx ry h
  obtain ⟨l, b, xs, zs, rfl, rfl, hA, hB, hz, q⟩ := h
  cases rx
  cases ry
  obtain ⟨ia, ra, ⟨⟨c1, dd1, dt1, sl1⟩, n1, g1, k1, j1, f1⟩, _⟩ := I.list hA
  obtain ⟨ib, rb, ⟨⟨c2, dd2, dt2, sl2⟩, n2, g2, k2, j2, f2⟩, _⟩ := I.list hB
  dsimp only at k1 j1 f1 k2 j2 f2
  subst k1 j1 f1 k2 j2 f2
  have e1 := ra.length
  have e2 := rb.length
  refine concat_meets ⟨_, g1, rfl⟩ ⟨_, g2, rfl⟩ noFill_list_add seq_list_add PySem.F.slot_list_add PySem.F.entry_list_add
    (PySem.F.args_list_add_2 _ _) (list_addW l b ia.toArray ib.toArray n1 n2 _ _ sl1 sl2 (by simp; omega)) ⟨g1, g2, ?_⟩
  have ea : ia.toArray ++ ib.toArray = (ia ++ ib).toArray := by simp
  rw [ea]
  exact ⟨.ref _, _, I.lnew (t' := s.toks) (ra.append rb) (by rw [List.length_append]; omega), rfl, q _ I.fresh⟩
theorem RDs.nil_iff {K : Fg} {m : List Addr} {H : Hp} {ds : List D} {vs : List V} (r : RDs K m H ds vs) : vs = [] ↔ ds = [] := by
  cases r <;> simp
theorem RD.lq {K : Fg} {m : List Addr} {H : Hp} {S : Store} {d : D} {v : V} {l : List D} (R : RS K cl m H S) (r : RD K m H d v) (e : lq? S d = some l) : ∃ a vs, v = .ref a ∧ SqL K H a vs ∧ RDs K m H l vs := by
  cases r with
  | fl h q => cases e; exact ⟨_, _, rfl, h.sq, q⟩
  | @ref n a h =>
    have e2 : lst? S n = some l := e
    unfold lst? at e2
    split at e2
    · rename_i l' g
      cases e2
      obtain ⟨vs, h1, h2⟩ := R.at_ n a _ h g
      exact ⟨a, vs, rfl, SqL.of h1, h2⟩
    · cases e2
  | _ => cases e
theorem lst_some {S : Store} {n : Nat} {l : List D} (e : lst? S n = some l) : S[n]? = some (.lst l) := by
  unfold lst? at e
  split at e
  · rename_i l' g
    cases e
    exact g
  · cases e
theorem RD.seq {K : Fg} {m : List Addr} {H : Hp} {S : Store} {d : D} {v : V} {l : List D} (R : RS K cl m H S) (r : RD K m H d v) (e : seq? S d = some l) : ∃ a vs, v = .ref a ∧ (SqL K H a vs ∨ SqT K H a vs) ∧ RDs K m H l vs := by
  cases r with
  | tup h q => cases e; exact ⟨_, _, rfl, .inr h, q⟩
  | fl h q => cases e; exact ⟨_, _, rfl, .inl h.sq, q⟩
  | ref h =>
    obtain ⟨a, vs, h1, h2, h3⟩ := RD.lq R (.ref h) e
    exact ⟨a, vs, h1, .inl h2, h3⟩
  | _ => cases e
theorem sm_log {i : Int} (h : Sm i) : i.natAbs.log2 < 4000 := PySem.Flt.log2_lt_of (by decide) h
theorem sm_bits {i : Int} (h : Sm i) : Builtin.Int.intBits i ≤ 4000 := by
  have := sm_log h
  unfold Builtin.Int.intBits
  split <;> omega
def rB (K : Fg) (cl : Cl) (op : Operator) : R2 := fun x y H Q => ∃ m S dx dy, RS K cl m H S ∧ RD K m H dx x ∧ RD K m H dy y ∧ bop op dx dy S (up K cl m H Q)
theorem bSub_use {dx dy : D} {S : Store} {Q : DK} (h : bSub dx dy S Q) : ∃ i j, dx = .int i ∧ dy = .int j ∧ True ∧ Q (.int (i - j)) S := by
  unfold bSub at h
  split at h
  · exact ⟨_, _, rfl, rfl, trivial, h⟩
  · exact h.elim
theorem bDiv_use {dx dy : D} {S : Store} {Q : DK} (h : bDiv dx dy S Q) : ∃ i j, dx = .int i ∧ dy = .int j ∧ (0 < j ∧ Sm j) ∧ Q (.int (i / j)) S := by
  unfold bDiv at h
  split at h
  · exact ⟨_, _, rfl, rfl, ⟨h.1, h.2.1⟩, h.2.2⟩
  · exact h.elim
theorem bMod_use {dx dy : D} {S : Store} {Q : DK} (h : bMod dx dy S Q) : ∃ i j, dx = .int i ∧ dy = .int j ∧ 0 < j ∧ Q (.int (i % j)) S := by
  unfold bMod at h
  split at h
  · exact ⟨_, _, rfl, rfl, h.1, h.2⟩
  · exact h.elim
theorem bPow_use {dx dy : D} {S : Store} {Q : DK} (h : bPow dx dy S Q) : ∃ i j, dx = .int i ∧ dy = .int j ∧ (0 ≤ j ∧ j ≤ 1000 ∧ Sm i) ∧ Q (.int (i ^ j.toNat)) S := by
  unfold bPow at h
  split at h
  · exact ⟨_, _, rfl, rfl, ⟨h.1, h.2.1, h.2.2.1⟩, h.2.2.2⟩
  · exact h.elim
theorem bShl_use {dx dy : D} {S : Store} {Q : DK} (h : bShl dx dy S Q) : ∃ i j, dx = .int i ∧ dy = .int j ∧ L2.CPow i j ∧ Q (.int (i * 2 ^ j.toNat)) S := by
  unfold bShl at h
  split at h
  · exact ⟨_, _, rfl, rfl, h.1, h.2⟩
  · exact h.elim
theorem bShr_use {dx dy : D} {S : Store} {Q : DK} (h : bShr dx dy S Q) : ∃ i j, dx = .int i ∧ dy = .int j ∧ 0 ≤ j ∧ Q (.int (i / 2 ^ j.toNat)) S := by
  unfold bShr at h
  split at h
  · exact ⟨_, _, rfl, rfl, h.1, h.2⟩
  · exact h.elim
theorem op_pow2 : OpR X (binaryOp .Pow) (rI (fun i j => 0 ≤ j ∧ j ≤ 1000 ∧ Sm i) fun i j => .int (i ^ j.toNat)) := opI fun i j _ _ _ _ _ hc q => by
  refine pow_int hc.1 ?_ q
  have h1 := sm_bits hc.2.2
  have h2 := hc.2.1
  have h3 := hc.1
  have : ((Builtin.Int.intBits i : Nat) : Int) * j ≤ 4000 * 1000 := Int.mul_le_mul (by omega) h2 h3 (by decide)
  omega
theorem up_here {K : Fg} {m : List Addr} {H : Hp} {Q : VK} {d : D} {v : V} {S : Store} (h : up K cl m H Q d S) (R : RS K cl m H S) (r : RD K m H d v) : Q v H := h m H v (Le.refl m H) R r
theorem op_snd (op : Operator) : OpR X (binaryOp op) (rB X.K cl op) := by
  intro pins s σ H x y v u Q I rx ry ⟨m, S, dx, dy, R, r1, r2, h⟩
  cases op with
  | Add =>
    replace h : bAdd dx dy S (up X.K cl m H Q) := h
    unfold bAdd at h
    split at h
    · cases r1; cases r2
      exact op_add pins s σ H _ _ v u Q I rx ry ⟨_, _, rfl, rfl, up_here h R (.int _)⟩
    · cases r1; cases r2
      refine op_add_ib pins s σ H _ _ v u Q I rx ry ⟨_, _, rfl, rfl, ?_⟩
      exact up_here h R (.int _)
    · cases r1 with
      | tup h1 q1 =>
        cases r2 with
        | tup h2 q2 =>
          have hl := lim_le
          have e1 := q1.length
          have e2 := q2.length
          have := h.1
          refine op_catA pins s σ H _ _ v u Q I rx ry ⟨_, _, _, _, rfl, rfl, h1, h2, by omega, fun e => ?_, fun _ e => ?_, fun _ _ p np => ?_⟩
          · have e0 := q1.nil_iff.mp e
            subst e0
            exact up_here h.2 R (.tup h2 q2)
          · have e0 := q2.nil_iff.mp e
            subst e0
            have h3 := h.2
            rw [List.append_nil] at h3
            exact up_here h3 R (.tup h1 q1)
          · exact h.2 m _ _ (le_new np) (R.new np) (.tup (SqT.of upd_same) ((q1.append q2).mono (le_new np)))
    · cases r1; cases r2
      have hl := lim_le
      have := h.1
      exact op_add_str pins s σ H _ _ v u Q I rx ry ⟨_, _, rfl, rfl, by omega, up_here h.2 R (.str _)⟩
    · split at h
      · rename_i l k e1 e2
        obtain ⟨a, vs, rfl, ha, qa⟩ := r1.lq R e1
        obtain ⟨b, us, rfl, hb, qb⟩ := r2.lq R e2
        have hl := lim_le
        have f1 := qa.length
        have f2 := qb.length
        have := h.1
        exact op_catS pins s σ H _ _ v u Q I rx ry ⟨a, b, vs, us, rfl, rfl, ha, hb, by omega, fun p np => h.2 _ _ _ (le_push np) (R.pushL np (qa.append qb)) (.ref (R.last p))⟩
      · exact h.elim
  | Sub =>
    obtain ⟨i, j, rfl, rfl, _, q⟩ := bSub_use h
    cases r1; cases r2
    exact op_sub pins s σ H _ _ v u Q I rx ry ⟨_, _, rfl, rfl, up_here q R (.int _)⟩
  | Mult =>
    replace h : bMul dx dy S (up X.K cl m H Q) := h
    unfold bMul at h
    split at h
    · cases r1; cases r2
      refine op_mulW pins s σ H _ _ v u Q I rx ry ⟨_, _, rfl, rfl, ?_, up_here h.2.2 R (.int _)⟩
      have h1 := sm_log h.1
      have h2 := sm_log h.2.1
      unfold CMulW
      omega
    · split at h
      · rename_i l e1
        cases r2
        cases r1 with
        | ref e =>
          have e2 := lst_some (S := S) e1
          obtain ⟨vs, h1, q1⟩ := R.at_ _ _ _ e e2
          have hl := lim_le
          have f1 := q1.length
          obtain ⟨k0, k1, k2, k3⟩ := h
          refine op_rep pins s σ H _ _ v u Q I rx ry ⟨_, _, vs, rfl, rfl, h1, by omega, by omega, ?_, fun p np => k3 _ _ _ (le_push np) (R.pushL np (q1.replicate _)) (.ref (R.last p))⟩
          rw [← f1]
          omega
      · exact h.elim
    · exact h.elim
  | FloorDiv =>
    obtain ⟨i, j, rfl, rfl, c, q⟩ := bDiv_use h
    cases r1; cases r2
    refine op_fdivW pins s σ H _ _ v u Q I rx ry ⟨_, _, rfl, rfl, ⟨c.1, ?_⟩, up_here q R (.int _)⟩
    have := sm_log c.2
    omega
  | Mod =>
    obtain ⟨i, j, rfl, rfl, c, q⟩ := bMod_use h
    cases r1; cases r2
    exact op_mod pins s σ H _ _ v u Q I rx ry ⟨_, _, rfl, rfl, c, up_here q R (.int _)⟩
  | Pow =>
    obtain ⟨i, j, rfl, rfl, c, q⟩ := bPow_use h
    cases r1; cases r2
    exact op_pow2 pins s σ H _ _ v u Q I rx ry ⟨_, _, rfl, rfl, c, up_here q R (.int _)⟩
  | LShift =>
    obtain ⟨i, j, rfl, rfl, c, q⟩ := bShl_use h
    cases r1; cases r2
    exact op_shl pins s σ H _ _ v u Q I rx ry ⟨_, _, rfl, rfl, c, up_here q R (.int _)⟩
  | RShift =>
    obtain ⟨i, j, rfl, rfl, c, q⟩ := bShr_use h
    cases r1; cases r2
    exact op_shr pins s σ H _ _ v u Q I rx ry ⟨_, _, rfl, rfl, c, up_here q R (.int _)⟩
  | _ => exact (show False from h).elim
end
end Mn
namespace Mn
open PySem PySem.Spec PyProof.Rows L2
section
variable {X : Cx} {cl : Cl} {K : Fg} {m : List Addr} {H : Hp} {S : Store}
mutual
theorem Snap.dp (R : RS K cl m H S) : ∀ {d : D} {p : PyData} {v : V}, Snap S d p → RD K m H d v → Dp K H v p
  | _, _, _, .non, .non => .non
  | _, _, _, .bl b, .bl _ => .bl b
  | _, _, _, .int i, .int _ => .int i
  | _, _, _, .str x, .str _ => .str x
  | _, _, _, .tup s, .tup h q => .tup h (Snaps.dp R s q)
  | _, _, _, .lst e s, r => by
    obtain ⟨a, vs, rfl, h1, h2⟩ := r.lq R e
    exact .lst h1 (Snaps.dp R s h2)
theorem Snaps.dp (R : RS K cl m H S) : ∀ {ds : List D} {ps : List PyData} {vs : List V}, Snaps S ds ps → RDs K m H ds vs → DpAll K H vs ps
  | _, _, _, .nil, .nil => .nil
  | _, _, _, .cons s t, .cons r q => .cons (Snap.dp R s r) (Snaps.dp R t q)
end
theorem RD.flat {d : D} {v : V} (r : RD K m H d v) (h : d.scal = true) : flatV v = true := by
  cases r <;> first | rfl | cases h
theorem RD.sEq {d e : D} {v u : V} (r : RD K m H d v) (q : RD K m H e u) (h : d.scal = true) (h' : e.scal = true) : eqV v u = d.sEq e := by
  cases r <;> first | (cases h; done) | (cases q <;> first | (cases h'; done) | rfl)
theorem RDs.flat : ∀ {ds : List D} {vs : List V}, RDs K m H ds vs → ds.all D.scal = true → vs.all flatV = true
  | _, _, .nil, _ => rfl
  | _, _, .cons r q, h => by
    rw [List.all_cons, Bool.and_eq_true] at h ⊢
    exact ⟨r.flat h.1, RDs.flat q h.2⟩
theorem RDs.inV {x : D} {u : V} (rx : RD K m H x u) (hx : x.scal = true) : ∀ {ds : List D} {vs : List V}, RDs K m H ds vs → ds.all D.scal = true → L2.inV u vs = ds.any fun z => z.sEq x
  | _, _, .nil, _ => rfl
  | _, _, .cons r q, h => by
    rw [List.all_cons, Bool.and_eq_true] at h
    show ((eqV _ u) || L2.inV u _) = _
    rw [List.any_cons, RDs.inV rx hx q h.2, r.sEq rx h.1 hx]
theorem RDs.ints : ∀ {ds : List D} {vs : List V} {ns : List Int}, RDs K m H ds vs → ints? ds = some ns → vs = ns.map V.int
  | _, _, _, .nil, e => by cases e; rfl
  | _, _, _, .cons r q, e => by
    cases r with
    | int i =>
      unfold ints? at e
      cases e2 : ints? _ with
      | none => rw [e2] at e; cases e
      | some ms =>
        rw [e2] at e
        cases e
        rw [RDs.ints q e2]
        rfl
    | _ => cases e
theorem RD.dct {d : D} {v : V} {kvs : List (Key × D)} (R : RS K cl m H S) (r : RD K m H d v) (e : dct? S d = some kvs) : ∃ n a l, d = .ref n ∧ m[n]? = some a ∧ v = .ref a ∧ S[n]? = some (.dct kvs) ∧ H a = some (.dK l) ∧ KR K m H kvs l := by
  cases r with
  | @ref n a h =>
    unfold dct? at e
    dsimp only at e
    split at e
    · rename_i l g
      cases e
      obtain ⟨l, h1, h2⟩ := R.at_ n a _ h g
      exact ⟨n, a, l, rfl, h, rfl, g, h1, h2⟩
    · cases e
  | _ => cases e
theorem RD.dctr {d : D} {v : V} {kvs : List (Key × D)} (R : RS K cl m H S) (r : RD K m H d v) (e : dctr? S d = some kvs) : ∃ n a l, d = .ref n ∧ m[n]? = some a ∧ v = .ref a ∧ Rd H a (.dK l) ∧ KR K m H kvs l := by
  cases r with
  | @ref n a h =>
    unfold dctr? at e
    dsimp only at e
    split at e
    · rename_i l g
      cases e
      obtain ⟨l, h1, h2⟩ := R.at_ n a _ h g
      exact ⟨n, a, l, rfl, h, rfl, .inl h1, h2⟩
    · rename_i l g
      cases e
      obtain ⟨o, l, h1, h2⟩ := R.at_ n a _ h g
      exact ⟨n, a, l, rfl, h, rfl, .inr ⟨o, h1⟩, h2⟩
    · cases e
  | _ => cases e
theorem dget_rd {H : Hp} {a : Addr} {kvs : List (Key × V)} {k : Key} (e : Rd H a (.dK kvs)) : DGet H a (kV k) (valV kvs k) := .inl ⟨kvs, k, e, rfl, rfl⟩
theorem RD.key {d : D} {v : V} {k : Key} (r : RD K m H d v) (e : keyOf d = some k) : v = kV k := by
  cases r <;> first | (cases e; done) | (cases e; rfl)
theorem KR.dget {kvs : List (Key × D)} {l : List (Key × V)} (q : KR K m H kvs l) (k : Key) : (dGet kvs k).isSome = (valV l k).isSome := by
  rcases q.get k with ⟨d, v, h1, h2, _⟩ | ⟨h1, h2⟩
  · unfold dGet
    rw [h1, h2]
    rfl
  · unfold dGet
    rw [h1, h2]
    rfl
def rC (K : Fg) (cl : Cl) (op : CmpOp) : R2 := fun x y H Q => ∃ m S dx dy, RS K cl m H S ∧ RD K m H dx x ∧ RD K m H dy y ∧ cmpB op dx dy S fun b => Q (.bl b) H
theorem eq_gen (neg : Bool) (hu : X.A.units + 650 < cLine) {pins : List (Addr × Obj)} {s : Shared} {σ : L2.St} {x y : V} {v u : Value} {Q : VK} (I : Inv X pins σ H s) (rx : RelV x v) (ry : RelV y u)
    {p q : PyData} (hp : Dp X.K H x p) (hq : Dp X.K H y q) (c1 : p.canLay0 = true) (c2 : q.canLay0 = true) (hd : min p.depth q.depth ≤ 650) (h : Q (.bl (if neg then !PyData.eqv p q else PyData.eqv p q)) H) :
    wpAny (model X.prog X.w) X.A (compareOp (if neg then .NotEq else .Eq) v u) (EP X pins σ Q) X.xe s := by
  obtain ⟨as, r1⟩ := Dp.reads I p x v hp rx
  obtain ⟨bs, r2⟩ := Dp.reads I q y u hq ry
  cases neg with
  | false => exact SeqAt.compareEq_reads r1 r2 c1 c2 (by omega) ⟨.bl _, H, I, rfl, h⟩
  | true => exact SeqAt.compareNe_reads r1 r2 c1 c2 (by omega) ⟨.bl _, H, I, rfl, h⟩
theorem dec_sEq {d e : D} {v u : V} (r : RD K m H d v) (q : RD K m H e u) (hs : L2.scal v u = true) (h : d.scal = true) (h' : e.scal = true) : decide (v = u) = d.sEq e := by
  cases r <;> first
    | (cases h; done)
    | (cases q <;> first
        | (cases h'; done)
        | (cases hs; done)
        | rfl
        | (simp only [D.sEq, V.bl.injEq, V.int.injEq, V.str.injEq]; rw [Bool.beq_eq_decide_eq])
        | (simp [D.sEq]))
theorem scal_or {d e : D} {v u : V} (r : RD K m H d v) (q : RD K m H e u) (h : d.scal = true) (h' : e.scal = true) : L2.scal v u = true ∨ ∃ p p', Dp K H v p ∧ Dp K H u p' ∧ p.canLay0 = true ∧ p'.canLay0 = true ∧ min p.depth p'.depth ≤ 650 ∧ PyData.eqv p p' = d.sEq e := by
  cases r <;> first
    | (cases h; done)
    | (cases q <;> first
        | (cases h'; done)
        | exact .inl rfl
        | exact .inr ⟨_, _, .bl _, .int _, rfl, rfl, Nat.zero_le _, rfl⟩
        | exact .inr ⟨_, _, .int _, .bl _, rfl, rfl, Nat.zero_le _, rfl⟩)
theorem eq_scal (neg : Bool) (hu : X.A.units + 650 < cLine) {pins : List (Addr × Obj)} {s : Shared} {σ : L2.St} {x y : V} {v u : Value} {Q : VK} (I : Inv X pins σ H s) (rx : RelV x v) (ry : RelV y u)
    {d e : D} (r : RD X.K m H d x) (q : RD X.K m H e y) (h : d.scal = true) (h' : e.scal = true) (hq : Q (.bl (if neg then !d.sEq e else d.sEq e)) H) :
    wpAny (model X.prog X.w) X.A (compareOp (if neg then .NotEq else .Eq) v u) (EP X pins σ Q) X.xe s := by
  rcases scal_or r q h h' with hs | ⟨p, p', h1, h2, c1, c2, hd, he⟩
  · rw [← dec_sEq r q hs h h'] at hq
    cases neg with
    | false => exact op_eq pins s σ H _ _ v u Q I rx ry ⟨hs, hq⟩
    | true => exact op_ne pins s σ H _ _ v u Q I rx ry ⟨hs, hq⟩
  · rw [← he] at hq
    exact eq_gen neg hu I rx ry h1 h2 c1 c2 hd hq
theorem cEq_snd (neg : Bool) (hu : X.A.units + 650 < cLine) {pins : List (Addr × Obj)} {s : Shared} {σ : L2.St} {x y : V} {v u : Value} {Q : VK} (I : Inv X pins σ H s) (rx : RelV x v) (ry : RelV y u)
    {d e : D} (R : RS X.K cl m H S) (r : RD X.K m H d x) (q : RD X.K m H e y) (h : cEq d e S fun b => Q (.bl (if neg then !b else b)) H) :
    wpAny (model X.prog X.w) X.A (compareOp (if neg then .NotEq else .Eq) v u) (EP X pins σ Q) X.xe s := by
  unfold cEq at h
  split at h
  · rename_i hs
    rw [Bool.and_eq_true] at hs
    exact eq_scal neg hu I rx ry r q hs.1 hs.2 h
  · obtain ⟨p, p', s1, s2, c1, c2, hd, h⟩ := h
    exact eq_gen neg hu I rx ry (s1.dp R r) (s2.dp R q) c1 c2 hd h
theorem lexAt_shift (e r : Nat → Bool) (z : Bool) : ∀ k i : Nat, Ob.lexAt (fun j => e (j + 1)) (fun j => r (j + 1)) z i k = Ob.lexAt e r z (i + 1) k
  | 0, _ => rfl
  | k + 1, i => by
    show (if e (i + 1) = true then Ob.lexAt (fun j => e (j + 1)) (fun j => r (j + 1)) z (i + 1) k else r (i + 1)) = (if e (i + 1) = true then Ob.lexAt e r z (i + 1 + 1) k else r (i + 1))
    rw [lexAt_shift e r z k (i + 1)]
theorem lexAt_gt : ∀ ns ms : List Int, Ob.lexAt (fun j => decide (ns.getD j 0 = ms.getD j 0)) (fun j => decide (ms.getD j 0 < ns.getD j 0)) (decide (ns.length > ms.length)) 0 (min ns.length ms.length) = HT.lexLt ms ns
  | [], [] => rfl
  | [], _ :: _ => by simp [Ob.lexAt, HT.lexLt]
  | _ :: _, [] => by simp [Ob.lexAt, HT.lexLt]
  | n :: ns, m :: ms => by
    have ih := lexAt_gt ns ms
    rw [show min (n :: ns).length (m :: ms).length = min ns.length ms.length + 1 by simp, Ob.lexAt_succ, ← lexAt_shift]
    have e : (decide ((n :: ns).length > (m :: ms).length)) = decide (ns.length > ms.length) := by simp
    rw [e]
    show (if decide (n = m) = true then Ob.lexAt (fun j => decide (ns.getD j 0 = ms.getD j 0)) (fun j => decide (ms.getD j 0 < ns.getD j 0)) (decide (ns.length > ms.length)) 0 (min ns.length ms.length) else decide (m < n)) = _
    rw [ih]
    rw [HT.lexLt_cons]
    by_cases h2 : m = n
    · subst h2
      simp
    · have : n ≠ m := fun z => h2 z.symm
      simp [h2, this]
def rGtT (K : PySem.W.Frag) : R2 := fun x y H Q => ∃ (a b : Addr) (ns ms : List Int), x = .ref a ∧ y = .ref b ∧ SqT K H a (ns.map V.int) ∧ SqT K H b (ms.map V.int) ∧ Q (.bl (HT.lexLt ms ns)) H
theorem op_gtT {X : Cx} (hu : X.A.units < cLine) : OpR X (compareOp .Gt) (rGtT X.K) := by
  intro pins s σ H x y v u Q I rx ry h
  obtain ⟨a, b, ns, ms, rfl, rfl, ha, hb, q⟩ := h
  cases rx
  cases ry
  obtain ⟨its, r1, p1, _⟩ := I.tuple ha
  obtain ⟨its2, r2, p2, _⟩ := I.tuple hb
  have i1 : IntsAre its ns := Vals.ints r1
  have i2 : IntsAre its2 ms := Vals.ints r2
  have e1 : its.toArray.size = ns.length := by rw [List.size_toArray]; exact i1.length
  have e2 : its2.toArray.size = ms.length := by rw [List.size_toArray]; exact i2.length
  have at1 : ∀ j (h1 : j < its.toArray.size), ∃ t, its.toArray[j] = .int (ns.getD j 0) t := fun j h1 => PyProof.Rows.IntsAre.int_at i1 _ _ (by simp at h1; simp [h1])
  have at2 : ∀ j (h1 : j < its2.toArray.size), ∃ t, its2.toArray[j] = .int (ms.getD j 0) t := fun j h1 => PyProof.Rows.IntsAre.int_at i2 _ _ (by simp at h1; simp [h1])
  have R := Ob.RcOp.tuples_gt (A := X.A) (s := s) (e := fun j => decide (ns.getD j 0 = ms.getD j 0)) (r := fun j => decide (ms.getD j 0 < ns.getD j 0)) p1 p2 hu (fun j h1 h2 => by
    obtain ⟨t, et⟩ := at1 j h1
    obtain ⟨t', et'⟩ := at2 j h2
    rw [et, et']
    have z : (ns.getD j 0 == ms.getD j 0) = decide (ns.getD j 0 = ms.getD j 0) := by
      by_cases q : ns.getD j 0 = ms.getD j 0
      · rw [decide_eq_true q]; exact beq_iff_eq.mpr q
      · rw [decide_eq_false q]; exact beq_eq_false_iff_ne.mpr q
    rw [← z]
    exact SeqAt.EqAt.int_int _ _ _ _) (fun j h1 h2 _ => by
    obtain ⟨t, et⟩ := at1 j h1
    obtain ⟨t', et'⟩ := at2 j h2
    rw [et, et']
    exact Ob.RcOp.gt_int _ _ _ _)
  rw [e1, e2, lexAt_gt] at R
  have z : wpAny (model X.prog X.w) X.A (compareOp .Gt (.ref a) (.ref b)) (EP X pins σ Q) X.xe s := R X.prog X.w X.xe (EP X pins σ Q) ⟨.bl _, H, I, rfl, q⟩
  exact z
theorem cmp_snd (op : CmpOp) (hu : X.A.units + 650 < cLine) : OpR X (compareOp op) (rC X.K cl op) := by
  intro pins s σ H x y v u Q I rx ry ⟨m, S, dx, dy, R, r1, r2, h⟩
  cases op with
  | Eq => exact cEq_snd false hu I rx ry R r1 r2 h
  | NotEq => exact cEq_snd true hu I rx ry R r1 r2 h
  | Lt =>
    replace h : cLt dx dy fun b => Q (.bl b) H := h
    unfold cLt at h
    split at h
    · cases r1; cases r2
      exact op_lt pins s σ H _ _ v u Q I rx ry ⟨_, _, rfl, rfl, h⟩
    · split at h
      · rename_i ns ms e1 e2
        cases r1 with
        | tup h1 q1 =>
          cases r2 with
          | tup h2 q2 =>
            have f1 := q1.ints e1
            have f2 := q2.ints e2
            subst f1 f2
            exact op_ltT (by omega) pins s σ H _ _ v u Q I rx ry ⟨_, _, ns, ms, rfl, rfl, h1, h2, h⟩
      · exact h.elim
    · exact h.elim
  | LtE =>
    replace h : cLe dx dy fun b => Q (.bl b) H := h
    unfold cLe at h
    split at h
    · cases r1; cases r2
      exact op_le pins s σ H _ _ v u Q I rx ry ⟨_, _, rfl, rfl, h⟩
    · exact h.elim
  | Gt =>
    replace h : cGt dx dy fun b => Q (.bl b) H := h
    unfold cGt at h
    split at h
    · cases r1; cases r2
      exact op_gt pins s σ H _ _ v u Q I rx ry ⟨_, _, rfl, rfl, h⟩
    · split at h
      · rename_i ns ms e1 e2
        cases r1 with
        | tup h1 q1 =>
          cases r2 with
          | tup h2 q2 =>
            have f1 := q1.ints e1
            have f2 := q2.ints e2
            subst f1 f2
            exact op_gtT (by omega) pins s σ H _ _ v u Q I rx ry ⟨_, _, ns, ms, rfl, rfl, h1, h2, h⟩
      · exact h.elim
    · exact h.elim
  | GtE =>
    replace h : cGe dx dy fun b => Q (.bl b) H := h
    unfold cGe at h
    split at h
    · cases r1; cases r2
      exact op_ge pins s σ H _ _ v u Q I rx ry ⟨_, _, rfl, rfl, h⟩
    · exact h.elim
  | Is =>
    replace h : cIs dx dy fun b => Q (.bl b) H := h
    unfold cIs at h
    split at h
    · cases r2
      refine op_isN pins s σ H _ _ v u Q I rx ry ⟨rfl, ?_⟩
      cases r1 <;> exact h
    · split at h
      · cases r1; cases r2
        exact op_isBl pins s σ H _ _ v u Q I rx ry ⟨_, _, rfl, rfl, h⟩
      · exact h.elim
    · exact h.elim
  | IsNot =>
    replace h : cIs dx dy fun b => Q (.bl (!b)) H := h
    unfold cIs at h
    split at h
    · cases r2
      refine op_notN pins s σ H _ _ v u Q I rx ry ⟨rfl, ?_⟩
      cases r1 <;> exact h
    · split at h
      · cases r1; cases r2
        exact op_notBl pins s σ H _ _ v u Q I rx ry ⟨_, _, rfl, rfl, h⟩
      · exact h.elim
    · exact h.elim
  | In =>
    replace h : cIn dx dy S fun b => Q (.bl b) H := h
    unfold cIn at h
    split at h
    · rename_i l e
      obtain ⟨a, vs, rfl, hs, q⟩ := r2.seq R e
      refine op_in_seq pins s σ H _ _ v u Q I rx ry ⟨a, vs, rfl, hs, r1.flat h.1, q.flat h.2.1, ?_⟩
      rw [q.inV r1 h.1 h.2.1]
      exact h.2.2
    · split at h
      · rename_i kvs k e1 e2
        obtain ⟨n, a, l, rfl, hm, rfl, h1, q⟩ := r2.dctr R e1
        have ek := r1.key e2
        subst ek
        rw [q.dget k] at h
        cases ry
        exact d_in (by omega) I (dget_rd h1) rx fun s3 I3 => ⟨.bl _, H, I3, rfl, h⟩
      · unfold strInD at h
        split at h
        · cases r1
          cases r2
          exact op_in_str pins s σ H _ _ v u Q I rx ry ⟨_, _, rfl, rfl, h⟩
        · exact h.elim
  | NotIn =>
    replace h : cIn dx dy S fun b => Q (.bl (!b)) H := h
    unfold cIn at h
    split at h
    · rename_i l e
      obtain ⟨a, vs, rfl, hs, q⟩ := r2.seq R e
      refine op_notIn_seq pins s σ H _ _ v u Q I rx ry ⟨a, vs, rfl, hs, r1.flat h.1, q.flat h.2.1, ?_⟩
      rw [q.inV r1 h.1 h.2.1]
      exact h.2.2
    · split at h
      · rename_i kvs k e1 e2
        obtain ⟨n, a, l, rfl, hm, rfl, h1, q⟩ := r2.dctr R e1
        have ek := r1.key e2
        subst ek
        rw [q.dget k] at h
        cases ry
        exact d_notIn (by omega) I (dget_rd h1) rx fun s3 I3 => ⟨.bl _, H, I3, rfl, h⟩
      · unfold strInD at h
        split at h
        · cases r1
          cases r2
          exact op_notin_str pins s σ H _ _ v u Q I rx ry ⟨_, _, rfl, rfl, h⟩
        · exact h.elim
def rNil (K : Fg) (cl : Cl) : R2 := fun x y H Q => ∃ m S dx dy, RS K cl m H S ∧ RD K m H dx x ∧ RD K m H dy y ∧ nilD dx dy S fun b => Q (.bl b) H
theorem op_nil {cl : Cl} (hu : X.A.units < cLine) : OpR X (compareOp .Eq) (rNil X.K cl) := by
  intro pins s σ H x y v u Q I rx ry ⟨m, S, dx, dy, R, r1, r2, h⟩
  unfold nilD at h
  split at h
  · rename_i l e1 e2
    obtain ⟨n1, a, ka, rfl, hm, rfl, h1, q1⟩ := r1.dctr R e1
    obtain ⟨n2, b, kb, rfl, hm2, rfl, h2, q2⟩ := r2.dctr R e2
    cases q2
    obtain rfl : v = Value.ref a := rx
    obtain rfl : u = Value.ref b := ry
    obtain ⟨za, ya, va, ra, da⟩ := dk_rd I.hok h1
    obtain ⟨zb, yb, vb, rb, db⟩ := dk_rd I.hok h2
    cases rb
    have hl : ka.length = va.length := Paired.length ra
    have hl2 : l.length = ka.length := q1.length
    refine PySem.W.keq_eq (knd := mixKind X.prog X.w) (r := true) ya yb da db hu (fun hz => ?_) (fin_bl I h ?_)
    · cases va with
      | nil => exact .nil
      | cons _ _ => cases hz
    · cases l with
      | nil =>
        have : va.length = 0 := by rw [← hl, ← hl2]; rfl
        rw [List.length_eq_zero_iff.mp this]
        rfl
      | cons x r =>
        cases va with
        | nil => rw [← hl2] at hl; cases hl
        | cons _ _ => rfl
  · exact h.elim
end
end Mn
namespace Mn
open PySem PySem.Spec PyProof.Rows L2
def rBt (K : Fg) (cl : Cl) (b : Bt) : List V → Hp → VK → Prop := fun vs H Q => ∃ m S ds, RS K cl m H S ∧ RDs K m H ds vs ∧ bt b ds S (up K cl m H Q)
section
variable {X : Cx} {cl : Cl} {K : Fg} {m : List Addr} {H : Hp} {S : Store}
theorem RDs.one {d : D} {vs : List V} (r : RDs K m H [d] vs) : ∃ v, vs = [v] ∧ RD K m H d v := by
  cases r with
  | cons r1 r2 => cases r2; exact ⟨_, rfl, r1⟩
theorem RDs.two {d e : D} {vs : List V} (r : RDs K m H [d, e] vs) : ∃ v u, vs = [v, u] ∧ RD K m H d v ∧ RD K m H e u := by
  cases r with
  | cons r1 r2 =>
    obtain ⟨u, rfl, r3⟩ := r2.one
    exact ⟨_, _, rfl, r1, r3⟩
theorem RDs.keys : ∀ {l : List (Key × D)} {kvs : List (Key × V)}, KR K m H l kvs → RDs K m H (l.map fun kv => keyD kv.1) (kvs.map fun kv => kV kv.1)
  | _, _, .nil => .nil
  | _, _, .cons (k := k) r q => .cons (by cases k <;> constructor) (RDs.keys q)
theorem blt_list (hc : X.calm = true) : CallR X (.type "list") (rBt X.K cl .list1) := by
  intro pins s σ H xs us Q I r ⟨m, S, ds, R, rd, h⟩
  replace h : bList ds S (up X.K cl m H Q) := h
  unfold bList at h
  split at h
  · rename_i d
    obtain ⟨v, rfl, r1⟩ := rd.one
    split at h
    · rename_i l e
      obtain ⟨a, vs, rfl, hs, q⟩ := r1.seq R e
      exact call_list_of pins s σ H _ us Q I r ⟨a, vs, rfl, hs, fun p np => h _ _ _ (le_push np) (R.pushL np q) (.ref (R.last p))⟩
    · split at h
      · rename_i kvs e
        obtain ⟨n, a, l, rfl, hm, rfl, g, h1, q⟩ := r1.dct R e
        exact call_list_dK hc pins s σ H _ us Q I r ⟨a, l, rfl, h1, fun p np => h _ _ _ (le_push np) (R.pushL np (RDs.keys q)) (.ref (R.last p))⟩
      · exact h.elim
  · exact h.elim
theorem blt_tuple : CallR X (.type "tuple") (rBt X.K cl .tuple1) := by
  intro pins s σ H xs us Q I r ⟨m, S, ds, R, rd, h⟩
  replace h : bTuple ds S (up X.K cl m H Q) := h
  unfold bTuple at h
  split at h
  · rename_i d
    obtain ⟨v, rfl, r1⟩ := rd.one
    split at h
    · rename_i l e
      obtain ⟨a, vs, rfl, hs, q⟩ := r1.seq R e
      rcases hs with hs | hs
      · exact call_tuple_of pins s σ H _ us Q I r ⟨a, vs, rfl, .inl ⟨hs, fun p np => h _ _ _ (le_new np) (R.new np) (.tup (SqT.of upd_same) (q.mono (le_new np)))⟩⟩
      · exact call_tuple_of pins s σ H _ us Q I r ⟨a, vs, rfl, .inr ⟨hs, up_here h R (.tup hs q)⟩⟩
    · exact h.elim
  · exact h.elim
theorem blt_sum (hc : X.calm = true) : CallR X (.builtin "sum") (rBt X.K cl .sum1) := by
  intro pins s σ H xs us Q I r ⟨m, S, ds, R, rd, h⟩
  replace h : bSum ds S (up X.K cl m H Q) := h
  unfold bSum at h
  split at h
  · rename_i d
    obtain ⟨v, rfl, r1⟩ := rd.one
    split at h
    · rename_i ns e
      cases e1 : lq? S d with
      | none => rw [e1] at e; cases e
      | some l =>
        rw [e1] at e
        obtain ⟨a, vs, rfl, hs, q⟩ := r1.lq R e1
        have e2 := q.ints e
        subst e2
        exact cr_sum hc pins s σ H _ us Q I r ⟨a, ns, rfl, hs, up_here h R (.int _)⟩
    · exact h.elim
  · exact h.elim
theorem RDs.bls : ∀ {ds : List D} {vs : List V} {bs : List Bool}, RDs K m H ds vs → bls? ds = some bs → vs = bs.map V.bl
  | _, _, _, .nil, e => by cases e; rfl
  | _, _, _, .cons r q, e => by
    cases r with
    | bl i =>
      unfold bls? at e
      cases e2 : bls? _ with
      | none => rw [e2] at e; cases e
      | some ms =>
        rw [e2] at e
        cases e
        rw [RDs.bls q e2]
        rfl
    | _ => cases e
theorem blt_any (hc : X.calm = true) : CallR X (.builtin "any") (rBt X.K cl .any1) := by
  intro pins s σ H xs us Q I r ⟨m, S, ds, R, rd, h⟩
  replace h : bAny (fun l => l.any id) ds S (up X.K cl m H Q) := h
  unfold bAny at h
  split at h
  · rename_i d
    obtain ⟨v, rfl, r1⟩ := rd.one
    split at h
    · rename_i ns e
      cases e1 : lq? S d with
      | none => rw [e1] at e; cases e
      | some l =>
        rw [e1] at e
        obtain ⟨a, vs, rfl, hs, q⟩ := r1.lq R e1
        have e2 := q.bls e
        subst e2
        exact cr_any hc pins s σ H _ us Q I r ⟨a, ns, rfl, hs, up_here h R (.bl _)⟩
    · exact h.elim
  · exact h.elim
theorem blt_all (hc : X.calm = true) : CallR X (.builtin "all") (rBt X.K cl .all1) := by
  intro pins s σ H xs us Q I r ⟨m, S, ds, R, rd, h⟩
  replace h : bAny (fun l => l.all id) ds S (up X.K cl m H Q) := h
  unfold bAny at h
  split at h
  · rename_i d
    obtain ⟨v, rfl, r1⟩ := rd.one
    split at h
    · rename_i ns e
      cases e1 : lq? S d with
      | none => rw [e1] at e; cases e
      | some l =>
        rw [e1] at e
        obtain ⟨a, vs, rfl, hs, q⟩ := r1.lq R e1
        have e2 := q.bls e
        subst e2
        exact cr_all hc pins s σ H _ us Q I r ⟨a, ns, rfl, hs, up_here h R (.bl _)⟩
    · exact h.elim
  · exact h.elim
theorem blt_int : CallR X (.type "int") (rBt X.K cl .int1) := by
  intro pins s σ H xs us Q I r ⟨m, S, ds, R, rd, h⟩
  replace h : bInt ds S (up X.K cl m H Q) := h
  unfold bInt at h
  split at h
  · obtain ⟨v, rfl, r1⟩ := rd.one
    cases r1
    exact call_int1 pins s σ H _ us Q I r (.inl ⟨_, rfl, up_here h R (.int _)⟩)
  · obtain ⟨v, rfl, r1⟩ := rd.one
    cases r1
    exact call_int1 pins s σ H _ us Q I r (.inr ⟨_, rfl, up_here h R (.int _)⟩)
  · exact h.elim
mutual
theorem snap_py (S : Store) : ∀ {d : D}, d.pur = true → Snap S d d.py
  | .non, _ => .non
  | .bl b, _ => .bl b
  | .int i, _ => .int i
  | .str x, _ => .str x
  | .tup l, h => .tup (snaps_py S h)
  | .fl _, h => by cases h
  | .ref _, h => by cases h
theorem snaps_py (S : Store) : ∀ {l : List D}, purs l = true → Snaps S l (pys l)
  | [], _ => .nil
  | d :: r, h => by
    obtain ⟨h1, h2⟩ := Bool.and_eq_true_iff.mp (show (d.pur && purs r) = true from h)
    exact .cons (snap_py S h1) (snaps_py S h2)
end
mutual
theorem py_inj : ∀ {a b : D}, a.pur = true → b.pur = true → a.py = b.py → a = b
  | .non, b, _, hb, e => by cases b <;> first | rfl | (cases e; done) | (cases hb; done)
  | .bl x, b, _, hb, e => by cases b <;> first | (cases e; rfl) | (cases e; done) | (cases hb; done)
  | .int x, b, _, hb, e => by cases b <;> first | (cases e; rfl) | (cases e; done) | (cases hb; done)
  | .str x, b, _, hb, e => by cases b <;> first | (cases e; rfl) | (cases e; done) | (cases hb; done)
  | .tup x, b, ha, hb, e => by
    cases b with
    | tup y =>
      have e2 : pys x = pys y := by injection e
      rw [pys_inj ha hb e2]
    | _ => first | (cases e; done) | (cases hb; done)
  | .fl _, _, h, _, _ => by cases h
  | .ref _, _, h, _, _ => by cases h
theorem pys_inj : ∀ {a b : List D}, purs a = true → purs b = true → pys a = pys b → a = b
  | [], b, _, _, e => by cases b with | nil => rfl | cons _ _ => cases e
  | x :: xs, b, ha, hb, e => by
    cases b with
    | nil => cases e
    | cons y ys =>
      obtain ⟨h1, h2⟩ := Bool.and_eq_true_iff.mp (show (x.pur && purs xs) = true from ha)
      obtain ⟨h3, h4⟩ := Bool.and_eq_true_iff.mp (show (y.pur && purs ys) = true from hb)
      have e1 : x.py = y.py := by injection e
      have e2 : pys xs = pys ys := by injection e
      rw [py_inj h1 h3 e1, pys_inj h2 h4 e2]
end
theorem pys_map (l : List D) : pys l = l.map D.py := by
  induction l with
  | nil => rfl
  | cons d r ih => rw [List.map_cons, ← ih]; rfl
theorem purs_mem {l : List D} (h : purs l = true) : ∀ d ∈ l, d.pur = true := by
  induction l with
  | nil => intro d hd; cases hd
  | cons x r ih =>
    obtain ⟨h1, h2⟩ := Bool.and_eq_true_iff.mp (show (x.pur && purs r) = true from h)
    intro d hd
    rcases List.mem_cons.mp hd with rfl | hd
    · exact h1
    · exact ih h2 d hd
theorem each_of {pins : List (Addr × Obj)} {σ : L2.St} {s : Shared} (I : Inv X pins σ H s) (R : RS X.K cl m H S) : ∀ {ds : List D} {vs : List V} {us : List Value}, RDs X.K m H ds vs → Vals vs us → purs ds = true →
    PySem.W.EachIs (fun u d => ∃ v, RelV v u ∧ RD X.K m H d v) us ds ∧ PySem.W.EachIs (fun u d => ∃ as, Reads s.heap u (D.py d) as) us ds
  | _, _, _, .nil, .nil, _ => ⟨.nil, .nil⟩
  | d :: ds, v :: vs, u :: us, .cons r q, .cons rv qv, h => by
    obtain ⟨h1, h2⟩ := Bool.and_eq_true_iff.mp (show (d.pur && purs ds) = true from h)
    obtain ⟨a, b⟩ := each_of I R q qv h2
    obtain ⟨as, rr⟩ := Dp.reads I d.py v u ((snap_py S h1).dp R r) rv
    exact ⟨.cons ⟨v, rv, r⟩ a, .cons ⟨as, rr⟩ b⟩
theorem each_back : ∀ {us : List Value} {ds : List D}, PySem.W.EachIs (fun u d => ∃ v, RelV v u ∧ RD K m H d v) us ds → ∃ vs, RDs K m H ds vs ∧ Vals vs us
  | _, _, .nil => ⟨[], .nil, .nil⟩
  | _, _, .cons ⟨v, h1, h2⟩ q => by
    obtain ⟨vs, a, b⟩ := each_back q
    exact ⟨v :: vs, .cons h2 a, .cons h1 b⟩
theorem each_keys : ∀ {l : List (Key × D)} {kvs : List (Key × V)} {us : List Value}, KR K m H l kvs → Vals (kvs.map fun kv => kV kv.1) us →
    PySem.W.EachIs (fun u d => ∃ v, RelV v u ∧ RD K m H d v) us (l.map fun kv => keyD kv.1) ∧ ∀ (h : Heap) (a : Addr), PySem.W.EachIs (fun u d => ∃ as, Reads h u (D.py d) as ∧ a ∉ as) us (l.map fun kv => keyD kv.1)
  | _, _, _, .nil, .nil => ⟨.nil, fun _ _ => .nil⟩
  | _, _, _, .cons (k := k) r q, .cons rv qv => by
    obtain ⟨a, b⟩ := each_keys q qv
    refine ⟨.cons ⟨_, rv, by cases k <;> constructor⟩ a, fun h c => .cons ?_ (b h c)⟩
    cases k with
    | inl i =>
      obtain ⟨t, rfl⟩ := rv
      exact ⟨[], .int i t, by simp⟩
    | inr x =>
      obtain ⟨t, rfl⟩ := rv
      exact ⟨[], .str x t, by simp⟩
theorem sorted_dict (hc : X.calm = true) (hu : X.A.units + 650 < cLine) {pins : List (Addr × Obj)} {s : Shared} {σ : L2.St} {a : Addr} {l : List (Key × D)} {kvs : List (Key × V)} {Q : VK} (I : Inv X pins σ H s) (R : RS X.K cl m H S) (hk : Rd H a (.dK kvs)) (q : KR X.K m H l kvs) (ok : OrdOk (l.map fun kv => keyD kv.1))
    (h : up X.K cl m H Q (.ref S.length) (S ++ [.lst (sortD (l.map fun kv => keyD kv.1))])) : wpAny (model X.prog X.w) X.A (call (.builtin "sorted") [.ref a]) (EP X pins σ Q) X.xe s := by
  obtain ⟨hp, ha, hs, hd⟩ := ok
  obtain ⟨z, lo, vs, rk, hdd⟩ := dk_rd I.hok hk
  obtain ⟨ep, hat⟩ := hdd.dictAt
  have hl : kvs.length = vs.length := Paired.length rk
  refine PySem.Calls.call_function_entry kind_sorted plain_sorted entry_sorted (args_sorted1 _) ?_
  unfold Builtin.«sorted»
  refine wpAny_bind (m := checkCount "sorted" 1 1 _) (wpAny_pure ?_)
  refine wpAny_bind (PySem.W.kdu_collect (A := X.A.in1) (PySem.W.kdl_dict (knd := mixKind X.prog X.w) (kvs := vs) (ep := ep) lo) (I.ok.hd hc) hat (by rw [← hl]; exact z) fun h' tk acc hkeep hacc => ?_)
  have hla : acc.toList.length = kvs.length := by rw [Array.length_toList, hacc.1, hl]
  have hv : Vals (kvs.map fun kv => kV kv.1) acc.toList := by
    refine vals_of_at (by rw [List.length_map, hla]) fun j x w h1 h2 => ?_
    obtain ⟨k, y, hky, hi⟩ := hacc.2 j w (by rw [← Array.getElem?_toList]; exact h2)
    have e1 : (kvs.map (·.1))[j]? = some k := by
      rw [KV.keys rk, List.getElem?_map, hky] <;> rfl
    have e2 : (kvs.map fun kv => kV kv.1)[j]? = some (kV k) := by
      have e3 : (kvs.map fun kv => kV kv.1) = (kvs.map (·.1)).map kV := by rw [List.map_map] <;> rfl
      rw [e3, List.getElem?_map, e1] <;> rfl
    rw [e2] at h1
    cases h1
    exact keyIs_rel hi
  obtain ⟨k1, k2⟩ := each_keys q hv
  have hll : l.length = kvs.length := by
    have := (RDs.keys q).length
    rwa [List.length_map, List.length_map] at this
  refine wpAny_bind (wpAny_newList ?_ (by rw [hla]; exact z))
  have ho : (h'.push { cls := .type "list", data := .seq acc.toList.toArray }).get? h'.objs.size = some (seqObj "list" acc.toList.toArray 0) := Heap.get?_push_size _ rfl
  refine wpAny_bind (wpAny_holding (PySem.W.list_sort_data (R := fun u d => ∃ v, RelV v u ∧ RD X.K m H d v) (enc := D.py) (bs := l.map fun kv => keyD kv.1) ho k1 (k2 _ _) (by rw [← pys_map]; exact ha) (by rw [← pys_map]; exact hs) ?_ (fun b hb => ?_) fun out hlo eo => ?_))
  · rw [List.length_map, hll]
    exact z
  · have := hd b.py (by rw [pys_map]; exact List.mem_map_of_mem hb)
    show X.A.in1.units + 1 + b.py.depth < cLine
    have e : X.A.in1.units ≤ X.A.units + 1 := Nat.le_refl _
    omega
  · obtain ⟨ws, w1, w2⟩ := each_back eo
    obtain ⟨e, he⟩ := PyProof.Rows.sortedHeap_at (vs := acc.toList) (out := List.toArray out) ho
    have hn : H h'.objs.size = none := (I.hok.kept hkeep).fresh (Nat.le_refl _)
    have hg : s.heap.get? h'.objs.size = none := by
      cases hq : s.heap.get? h'.objs.size with
      | none => rfl
      | some o => exact absurd (Heap.lt_size (hkeep _ _ hq)) (Nat.lt_irrefl _)
    have hlw : ws.length ≤ sizeLine := by
      rw [← w1.length, List.length_mergeSort, List.length_map, hll]
      exact z
    have hk2 : ∀ b o, s.heap.get? b = some o → (sortedHeap (h'.push { cls := .type "list", data := .seq acc.toList.toArray }) h'.objs.size acc.toList (List.toArray out)).get? b = some o := fun b o eb => by
      have e1 := hkeep b o eb
      have lt := Heap.lt_size e1
      rw [PyProof.Rows.sortedHeap_old (Nat.ne_of_lt lt) (by rw [size_push']; exact Nat.lt_succ_of_lt lt)]
      exact Heap.get?_push_of_some _ e1
    refine wpAny_pure ⟨_, rfl, .ref h'.objs.size, upd H h'.objs.size (.lst ws), I.laidN (t' := tk) hk2 hg hn ⟨hlw, out, e, w2, he⟩, rfl, ?_⟩
    exact h _ _ _ (le_push hn) (R.pushL hn w1) (.ref (R.last _))
mutual
theorem reads_has {h : Heap} : ∀ {v : Value} {d : PyData} {as : List Addr}, Reads h v d as → ∀ b ∈ as, ∃ o, h.get? b = some o
  | _, _, _, .none, b, hb => nomatch hb
  | _, _, _, .bool _, b, hb => nomatch hb
  | _, _, _, .int _ _, b, hb => nomatch hb
  | _, _, _, .str _ _, b, hb => nomatch hb
  | _, _, _, .list h1 h2 h3 h4, b, hb => by
    rcases List.mem_cons.mp hb with rfl | hb
    · exact ⟨_, h1⟩
    · exact readsAll_has h4 b hb
  | _, _, _, .tuple h1 h2 h3 h4, b, hb => readsAll_has h4 b hb
  | _, _, _, .dict h1 h2 h3 h4 h5, b, hb => by
    rcases List.mem_append.mp hb with hb | hb
    · rcases List.mem_cons.mp hb with rfl | hb
      · exact ⟨_, h1⟩
      · exact readsAll_has h4 b hb
    · exact readsAll_has h5 b hb
theorem readsAll_has {h : Heap} : ∀ {vs : List Value} {ds : List PyData} {as : List Addr}, ReadsAll h vs ds as → ∀ b ∈ as, ∃ o, h.get? b = some o
  | _, _, _, .nil, b, hb => nomatch hb
  | _, _, _, .cons h1 h2, b, hb => by
    rcases List.mem_append.mp hb with hb | hb
    · exact reads_has h1 b hb
    · exact readsAll_has h2 b hb
end
theorem sorted_tup (hc : X.calm = true) (hu : X.A.units + 650 < cLine) {pins : List (Addr × Obj)} {s : Shared} {σ : L2.St} {a : Addr} {l : List D} {vs : List V} {Q : VK} (I : Inv X pins σ H s) (R : RS X.K cl m H S) (hk : SqT X.K H a vs) (q : RDs X.K m H l vs) (ok : OrdOk l)
    (h : up X.K cl m H Q (.ref S.length) (S ++ [.lst (sortD l)])) : wpAny (model X.prog X.w) X.A (call (.builtin "sorted") [.ref a]) (EP X pins σ Q) X.xe s := by
  obtain ⟨hp, ha, hs, hd⟩ := ok
  obtain ⟨its, hv, ⟨o, ho0, hoc, c0, hod⟩, z⟩ := I.tuple hk
  obtain ⟨e1, e2⟩ := each_of I R q hv hp
  refine PySem.Calls.call_function_entry kind_sorted plain_sorted entry_sorted (args_sorted1 _) ?_
  unfold Builtin.«sorted»
  refine wpAny_bind (m := checkCount "sorted" 1 1 _) (wpAny_pure ?_)
  have hli : its.length = vs.length := hv.length.symm
  refine wpAny_bind (wpAny_collect_seq (A := X.A.in1) a (.inr rfl) ho0 hoc hod (fun h' hkeep => ?_) (by rw [List.size_toArray, hli]; exact z))
  refine wpAny_bind (wpAny_newList ?_ (by simp [hli]; exact z))
  have ho : (h'.push { cls := .type "list", data := .seq its.toArray.toList.toArray }).get? h'.objs.size = some (seqObj "list" its.toArray.toList.toArray 0) := Heap.get?_push_size _ rfl
  have hg : s.heap.get? h'.objs.size = none := by
    cases hq : s.heap.get? h'.objs.size with
    | none => rfl
    | some o => exact absurd (Heap.lt_size (hkeep _ _ hq)) (Nat.lt_irrefl _)
  have hk1 : ∀ b o, s.heap.get? b = some o → (h'.push { cls := .type "list", data := .seq its.toArray.toList.toArray }).get? b = some o := fun b o eb => Heap.get?_push_of_some _ (hkeep b o eb)
  have e3 : PySem.W.EachIs (fun u d => ∃ as, Reads (h'.push { cls := .type "list", data := .seq its.toArray.toList.toArray }) u (D.py d) as ∧ h'.objs.size ∉ as) its.toArray.toList l := e2.mono fun u d ⟨as, r⟩ => ⟨as, PyProof.Rows.Reads.keeps hk1 r, fun hm => by
    obtain ⟨o, e⟩ := reads_has r _ hm
    rw [hg] at e
    cases e⟩
  refine wpAny_bind (wpAny_holding (PySem.W.list_sort_data (R := fun u d => ∃ v, RelV v u ∧ RD X.K m H d v) (enc := D.py) (bs := l) ho e1 e3 (by rw [← pys_map]; exact ha) (by rw [← pys_map]; exact hs) ?_ (fun b hb => ?_) fun out hlo eo => ?_))
  · rw [q.length]
    exact z
  · have := hd b.py (by rw [pys_map]; exact List.mem_map_of_mem hb)
    show X.A.in1.units + 1 + b.py.depth < cLine
    have e : X.A.in1.units ≤ X.A.units + 1 := Nat.le_refl _
    omega
  · obtain ⟨ws, w1, w2⟩ := each_back eo
    obtain ⟨e, he⟩ := PyProof.Rows.sortedHeap_at (vs := its.toArray.toList) (out := List.toArray out) ho
    have hn : H h'.objs.size = none := (I.hok.kept hkeep).fresh (Nat.le_refl _)
    have hlw : ws.length ≤ sizeLine := by
      rw [← w1.length, List.length_mergeSort, q.length]
      exact z
    have hk2 : ∀ b o, s.heap.get? b = some o → (sortedHeap (h'.push { cls := .type "list", data := .seq its.toArray.toList.toArray }) h'.objs.size its.toArray.toList (List.toArray out)).get? b = some o := fun b o eb => by
      have e1 := hkeep b o eb
      have lt := Heap.lt_size e1
      rw [PyProof.Rows.sortedHeap_old (Nat.ne_of_lt lt) (by rw [size_push']; exact Nat.lt_succ_of_lt lt)]
      exact Heap.get?_push_of_some _ e1
    refine wpAny_pure ⟨_, rfl, .ref h'.objs.size, upd H h'.objs.size (.lst ws), I.laidN (t' := s.toks) hk2 hg hn ⟨hlw, out, e, w2, he⟩, rfl, ?_⟩
    exact h _ _ _ (le_push hn) (R.pushL hn w1) (.ref (R.last _))
theorem blt_sorted (hc : X.calm = true) (hu : X.A.units + 650 < cLine) : CallR X (.builtin "sorted") (rBt X.K cl .sorted1) := by
  intro pins s σ H xs us Q I r ⟨m, S, ds, R, rd, h⟩
  replace h : bSorted ds S (up X.K cl m H Q) := h
  unfold bSorted at h
  split at h
  · rename_i d
    obtain ⟨v, rfl, r1⟩ := rd.one
    split at h
    · rename_i l e
      obtain ⟨⟨hp, ha, hs, hd⟩, q⟩ := h
      obtain ⟨a, vs, rfl, hq, ql⟩ := r1.lq R e
      obtain ⟨its, rv, pl, hz⟩ := I.list hq
      obtain ⟨u, rfl, ru⟩ := vals1 r
      cases ru
      obtain ⟨e1, e2⟩ := each_of I R ql rv hp
      have hl : l.length ≤ sizeLine := by rw [ql.length]; exact hz
      refine PySem.W.sorted_data (R := fun u d => ∃ v, RelV v u ∧ RD X.K m H d v) (enc := D.py) (bs := l) pl.isList e1 e2 (by rw [← pys_map]; exact ha) (by rw [← pys_map]; exact hs) hl (fun b hb => ?_) fun out ho eo => ?_
      · have := hd b.py (by rw [pys_map]; exact List.mem_map_of_mem hb)
        omega
      · obtain ⟨ws, w1, w2⟩ := each_back eo
        obtain ⟨ep, he⟩ := PyProof.Rows.sortedAll_at s.heap its (List.toArray out)
        have hn := I.hok.fresh (Nat.le_succ s.heap.objs.size)
        have hlw : ws.length ≤ sizeLine := by rw [← w1.length, List.length_mergeSort]; exact hl
        refine ⟨.ref _, upd H (s.heap.objs.size + 1) (.lst ws), I.laid (t' := s.toks) (fun _ _ => PyProof.Rows.sortedAll_old) (Nat.le_succ _) ⟨hlw, out, ep, w2, he⟩, rfl, ?_⟩
        exact q _ _ _ (le_push hn) (R.pushL hn w1) (.ref (R.last _))
    · split at h
      · rename_i kvs e
        obtain ⟨n, a, l, rfl, hm, rfl, h1, q⟩ := r1.dctr R e
        obtain ⟨u, rfl, ru⟩ := vals1 r
        cases ru
        exact sorted_dict hc hu I R h1 q h.1 h.2
      · split at h
        · rename_i l
          cases r1 with
          | tup hk q =>
            obtain ⟨u, rfl, ru⟩ := vals1 r
            cases ru
            exact sorted_tup hc hu I R hk q h.1 h.2
        · exact h.elim
  · exact h.elim
theorem all_of {h : Heap} : ∀ {us : List Value} {ds : List D}, PySem.W.EachIs (fun u d => ∃ as, Reads h u (D.py d) as) us ds → ∃ as, ReadsAll h us (pys ds) as
  | _, _, .nil => ⟨_, .nil⟩
  | _, _, .cons ⟨a, h1⟩ q => by
    obtain ⟨b, h2⟩ := all_of q
    exact ⟨_, .cons h1 h2⟩
theorem minD_py (x : D) (l : List D) : PySem.W.minD x.py (pys l) = (minL x l).py := by
  rw [pys_map]
  unfold PySem.W.minD minL
  induction l generalizing x with
  | nil => rfl
  | cons y r ih =>
    rw [List.map_cons, List.foldl_cons, List.foldl_cons]
    by_cases h : PySem.W.dataLt y.py x.py = true
    · simp only [h, if_true]
      exact ih y
    · simp only [h, if_false]
      exact ih x
theorem maxD_py (x : D) (l : List D) : PySem.W.maxD x.py (pys l) = (maxL x l).py := by
  rw [pys_map]
  unfold PySem.W.maxD maxL
  induction l generalizing x with
  | nil => rfl
  | cons y r ih =>
    rw [List.map_cons, List.foldl_cons, List.foldl_cons]
    by_cases h : PySem.W.dataLt x.py y.py = true
    · simp only [h, if_true]
      exact ih y
    · simp only [h, if_false]
      exact ih x
theorem minL_mem (x : D) (l : List D) : minL x l ∈ x :: l := by
  unfold minL
  induction l generalizing x with
  | nil => exact List.mem_cons_self
  | cons y r ih =>
    rw [List.foldl_cons]
    split
    · exact List.mem_cons_of_mem _ (ih y)
    · rcases List.mem_cons.mp (ih x) with e | e
      · rw [e]; exact List.mem_cons_self
      · exact List.mem_cons_of_mem _ (List.mem_cons_of_mem _ e)
theorem maxL_mem (x : D) (l : List D) : maxL x l ∈ x :: l := by
  unfold maxL
  induction l generalizing x with
  | nil => exact List.mem_cons_self
  | cons y r ih =>
    rw [List.foldl_cons]
    split
    · exact List.mem_cons_of_mem _ (ih y)
    · rcases List.mem_cons.mp (ih x) with e | e
      · rw [e]; exact List.mem_cons_self
      · exact List.mem_cons_of_mem _ (List.mem_cons_of_mem _ e)
theorem OrdOk.alikeAll {l : List D} (h : OrdOk l) : PySem.W.AlikeAll (pys l) := by
  obtain ⟨hp, ha, hs, hd⟩ := h
  refine ⟨fun x hx y hy => ha x hx y hy, fun x hx => ?_⟩
  rcases hs with hs | hs
  · obtain ⟨y, r, e⟩ := hs x hx
    rw [e]
    exact fun z => by cases z
  · exact (hs x hx).1
theorem depthAll_le {n : Nat} : ∀ {l : List PyData}, (∀ p ∈ l, p.depth ≤ n) → PyData.depthAll l ≤ n
  | [], _ => Nat.zero_le _
  | p :: r, h => Nat.max_le.mpr ⟨h p List.mem_cons_self, depthAll_le fun q hq => h q (List.mem_cons_of_mem _ hq)⟩
theorem best_rd {pins : List (Addr × Obj)} {σ : L2.St} {s : Shared} {h' : Heap} (I : Inv X pins σ H s) (R : RS X.K cl m H S) {ds : List D} {vs : List V} {us : List Value} (q : RDs X.K m H ds vs) (qv : Vals vs us) (ok : OrdOk ds) (kp : ∀ b o, s.heap.get? b = some o → h'.get? b = some o)
    {i : Nat} {u : Value} {b : D} {as : List Addr} (hb : b ∈ ds) (hu : us[i]? = some u) (hr : Reads h' u b.py as) : ∃ v, RelV v u ∧ RD X.K m H b v := by
  have hl := qv.length
  have hl2 := q.length
  have hi : i < us.length := (List.getElem?_eq_some_iff.mp hu).1
  have hv : vs[i]? = some vs[i] := List.getElem?_eq_getElem (by omega)
  obtain ⟨d, hd, rd⟩ := q.getV hv
  obtain ⟨u', hu', ru⟩ := qv.get hv
  rw [hu] at hu'
  cases hu'
  have hdm : d ∈ ds := List.mem_of_getElem? hd
  have pd := purs_mem ok.1 d hdm
  obtain ⟨bs, r1⟩ := Dp.reads I d.py _ u ((snap_py S pd).dp R rd) ru
  have r2 := PyProof.Rows.Reads.keeps kp r1
  have e := PySem.W.alike_unique _ _ _ _ _ (ok.2.1 _ (by rw [pys_map]; exact List.mem_map_of_mem hdm) _ (by rw [pys_map]; exact List.mem_map_of_mem hb)) r2 hr
  have e2 := py_inj pd (purs_mem ok.1 b hb) e
  subst e2
  exact ⟨_, ru, rd⟩
theorem blt_min (hc : X.calm = true) (hu : X.A.units + 650 < cLine) : CallR X (.builtin "min") (rBt X.K cl .min1) := by
  intro pins s σ H xs us Q I r ⟨m, S, ds, R, rd, h⟩
  replace h : bBest minL ds S (up X.K cl m H Q) := h
  unfold bBest at h
  split at h
  · rename_i d
    obtain ⟨v, rfl, r1⟩ := rd.one
    split at h
    · rename_i x l e
      obtain ⟨ok, q⟩ := h
      obtain ⟨a, vs, rfl, hq, ql⟩ := r1.lq R e
      obtain ⟨its, rv, pl, hz⟩ := I.list hq
      obtain ⟨u, rfl, ru⟩ := vals1 r
      cases ru
      obtain ⟨e1, e2⟩ := each_of I R ql rv ok.1
      obtain ⟨as, ra⟩ := all_of e2
      have hd := depthAll_le ok.2.2.2
      refine PySem.W.min_list_data (I.ok.hd hc) pl.isList (show ReadsAll s.heap its.toArray.toList (x.py :: pys l) as by simpa using (show ReadsAll s.heap its (x.py :: pys l) as from ra)) ok.alikeAll (by show X.A.units + 1 + PyData.depthAll (pys (x :: l)) < cLine; omega) fun i u h' tk bs hi hr hk => ?_
      rw [minD_py] at hr
      obtain ⟨w, w1, w2⟩ := best_rd I R ql rv ok hk (minL_mem x l) (by simpa using hi) hr
      exact ⟨w, H, I.kept hk, w1, up_here q R w2⟩
    · exact h.elim
  · exact h.elim
theorem blt_max (hc : X.calm = true) (hu : X.A.units + 650 < cLine) : CallR X (.builtin "max") (rBt X.K cl .max1) := by
  intro pins s σ H xs us Q I r ⟨m, S, ds, R, rd, h⟩
  replace h : bBest maxL ds S (up X.K cl m H Q) := h
  unfold bBest at h
  split at h
  · rename_i d
    obtain ⟨v, rfl, r1⟩ := rd.one
    split at h
    · rename_i x l e
      obtain ⟨ok, q⟩ := h
      obtain ⟨a, vs, rfl, hq, ql⟩ := r1.lq R e
      obtain ⟨its, rv, pl, hz⟩ := I.list hq
      obtain ⟨u, rfl, ru⟩ := vals1 r
      cases ru
      obtain ⟨e1, e2⟩ := each_of I R ql rv ok.1
      obtain ⟨as, ra⟩ := all_of e2
      have hd := depthAll_le ok.2.2.2
      refine PySem.W.max_list_data (I.ok.hd hc) pl.isList (show ReadsAll s.heap its.toArray.toList (x.py :: pys l) as by simpa using (show ReadsAll s.heap its (x.py :: pys l) as from ra)) ok.alikeAll (by show X.A.units + 1 + PyData.depthAll (pys (x :: l)) < cLine; omega) fun i u h' tk bs hi hr hk => ?_
      rw [maxD_py] at hr
      obtain ⟨w, w1, w2⟩ := best_rd I R ql rv ok hk (maxL_mem x l) (by simpa using hi) hr
      exact ⟨w, H, I.kept hk, w1, up_here q R w2⟩
    · exact h.elim
  · exact h.elim
theorem ord_nil : OrdOk [] := ⟨rfl, (fun d hd => by cases hd), Or.inr (fun d hd => by cases hd), (fun p hp => by cases hp)⟩
def rMaxd (K : Fg) (cl : Cl) : List V → List V → Hp → VK → Prop := fun vs zs H Q => ∃ m S d e, RS K cl m H S ∧ RDs K m H [d] vs ∧ RDs K m H [e] zs ∧ bMaxd [d, e] S (up K cl m H Q)
theorem blt_maxd (hc : X.calm = true) (hu : X.A.units + 650 < cLine) : CallRK X (.builtin "max") [Str.ofString "default"] (rMaxd X.K cl) := by
  intro pins s σ H vs zs us ws Q I r r' ⟨m, S, d, e, R, rd, re, h⟩
  obtain ⟨v, rfl, r1⟩ := rd.one
  obtain ⟨z, rfl, r2⟩ := re.one
  obtain ⟨u, rfl, ru⟩ := vals1 r
  obtain ⟨w, rfl, rw'⟩ := vals1 r'
  unfold bMaxd at h
  dsimp only at h
  have key : ∀ {l : List D}, lq? S d = some l → (l = [] → up X.K cl m H Q e S) → (∀ x r, l = x :: r → OrdOk (x :: r) ∧ up X.K cl m H Q (maxL x r) S) → OrdOk l → wpAny (model X.prog X.w) X.A (call (.builtin "max") [u] [(Str.ofString "default", w)]) (EP X pins σ Q) X.xe s := by
    intro l el h0 h1 ok
    obtain ⟨a, vs, rfl, hq, ql⟩ := r1.lq R el
    obtain ⟨its, rv, pl, hz⟩ := I.list hq
    cases ru
    obtain ⟨e1, e2⟩ := each_of I R ql rv ok.1
    obtain ⟨as, ra⟩ := all_of e2
    have hd := depthAll_le ok.2.2.2
    refine PySem.W.max_list_default (I.ok.hd hc) pl.isList (by simpa using ra) ok.alikeAll (by omega) (fun z h' tk hk => ?_) fun y ys i u h' tk bs ey hi hr hk => ?_
    · have hl : l = [] := by cases l with | nil => rfl | cons _ _ => cases z
      exact ⟨_, H, I.kept hk, rw', up_here (h0 hl) R r2⟩
    · cases l with
      | nil => cases ey
      | cons x r =>
        have ex : x.py = y := by injection ey
        have er : pys r = ys := by injection ey
        subst ex er
        rw [maxD_py] at hr
        obtain ⟨w, w1, w2⟩ := best_rd I R ql rv ok hk (maxL_mem x r) (by simpa using hi) hr
        exact ⟨w, H, I.kept hk, w1, up_here (h1 x r rfl).2 R w2⟩
  split at h
  · rename_i el
    exact key el (fun _ => h) (fun x r e => by cases e) ord_nil
  · rename_i x l el
    exact key el (fun e => by cases e) (fun x' r' e => by cases e; exact h) h.1
  · exact h.elim
def rMind (K : Fg) (cl : Cl) : List V → List V → Hp → VK → Prop := fun vs zs H Q => ∃ m S d e, RS K cl m H S ∧ RDs K m H [d] vs ∧ RDs K m H [e] zs ∧ bMind [d, e] S (up K cl m H Q)
theorem blt_mind (hc : X.calm = true) (hu : X.A.units + 650 < cLine) : CallRK X (.builtin "min") [Str.ofString "default"] (rMind X.K cl) := by
  intro pins s σ H vs zs us ws Q I r r' ⟨m, S, d, e, R, rd, re, h⟩
  obtain ⟨v, rfl, r1⟩ := rd.one
  obtain ⟨z, rfl, r2⟩ := re.one
  obtain ⟨u, rfl, ru⟩ := vals1 r
  obtain ⟨w, rfl, rw'⟩ := vals1 r'
  unfold bMind at h
  dsimp only at h
  have key : ∀ {l : List D}, lq? S d = some l → (l = [] → up X.K cl m H Q e S) → (∀ x r, l = x :: r → OrdOk (x :: r) ∧ up X.K cl m H Q (minL x r) S) → OrdOk l → wpAny (model X.prog X.w) X.A (call (.builtin "min") [u] [(Str.ofString "default", w)]) (EP X pins σ Q) X.xe s := by
    intro l el h0 h1 ok
    obtain ⟨a, vs, rfl, hq, ql⟩ := r1.lq R el
    obtain ⟨its, rv, pl, hz⟩ := I.list hq
    cases ru
    obtain ⟨e1, e2⟩ := each_of I R ql rv ok.1
    obtain ⟨as, ra⟩ := all_of e2
    have hd := depthAll_le ok.2.2.2
    refine PySem.W.min_list_default (I.ok.hd hc) pl.isList (by simpa using ra) ok.alikeAll (by omega) (fun z h' tk hk => ?_) fun y ys i u h' tk bs ey hi hr hk => ?_
    · have hl : l = [] := by cases l with | nil => rfl | cons _ _ => cases z
      exact ⟨_, H, I.kept hk, rw', up_here (h0 hl) R r2⟩
    · cases l with
      | nil => cases ey
      | cons x r =>
        have ex : x.py = y := by injection ey
        have er : pys r = ys := by injection ey
        subst ex er
        rw [minD_py] at hr
        obtain ⟨w, w1, w2⟩ := best_rd I R ql rv ok hk (minL_mem x r) (by simpa using hi) hr
        exact ⟨w, H, I.kept hk, w1, up_here (h1 x r rfl).2 R w2⟩
  split at h
  · rename_i el
    exact key el (fun _ => h) (fun x r e => by cases e) ord_nil
  · rename_i x l el
    exact key el (fun e => by cases e) (fun x' r' e => by cases e; exact h) h.1
  · exact h.elim
theorem blt_abs : CallR X (.builtin "abs") (rBt X.K cl .abs1) := by
  intro pins s σ H xs us Q I r ⟨m, S, ds, R, rd, h⟩
  replace h : bAbs ds S (up X.K cl m H Q) := h
  unfold bAbs at h
  split at h
  · obtain ⟨v, rfl, r1⟩ := rd.one
    cases r1
    exact call_abs pins s σ H _ us Q I r ⟨_, rfl, up_here h R (.int _)⟩
  · exact h.elim
def rBm (K : Fg) (cl : Cl) (b : Bm) : V → List V → Hp → VK → Prop := fun x vs H Q => ∃ m S d ds, RS K cl m H S ∧ RD K m H d x ∧ RDs K m H ds vs ∧ bm b d ds S (up K cl m H Q)
theorem bm_append : MtR X "list.append" (rBm X.K cl .append) := by
  intro pins s σ H x vs v us Q I rx rv ⟨m, S, d, ds, R, r1, rd, h⟩
  replace h : mAppend d ds S (up X.K cl m H Q) := h
  unfold mAppend at h
  split at h
  · rename_i n e
    obtain ⟨y, rfl, r2⟩ := rd.one
    split at h
    · rename_i l g
      cases r1 with
      | ref hm =>
        obtain ⟨ws, h1, q⟩ := R.at_ _ _ _ hm g
        have hl := lim_le
        have := h.1
        have := q.length
        refine mt_append pins s σ H _ _ v us Q I rx rv ⟨_, ws, y, rfl, rfl, h1, by omega, ?_⟩
        exact h.2 _ _ _ (le_set h1 trivial) (R.set hm h1 trivial ⟨_, upd_same, (q.append (.cons r2 .nil)).mono (le_set h1 trivial)⟩) .non
    · exact h.elim
  · exact h.elim
theorem bm_pop : MtR X "list.pop" (rBm X.K cl .pop) := by
  intro pins s σ H x vs v us Q I rx rv ⟨m, S, d, ds, R, r1, rd, h⟩
  replace h : mPop d ds S (up X.K cl m H Q) := h
  unfold mPop at h
  split at h
  · rename_i n
    cases rd
    split at h
    · rename_i l g
      cases r1 with
      | ref hm =>
        obtain ⟨ws, h1, q⟩ := R.at_ _ _ _ hm g
        split at h
        · rename_i y ey
          rw [List.getLast?_eq_getElem?] at ey
          obtain ⟨w, hw, rw'⟩ := q.get ey
          rw [q.length] at hw
          refine mt_pop pins s σ H _ _ v us Q I rx rv ⟨_, ws, w, rfl, rfl, h1, hw, ?_⟩
          refine h _ _ _ (le_set h1 trivial) (R.set hm h1 trivial ⟨_, upd_same, ?_⟩) (rw'.mono (le_set h1 trivial))
          rw [List.dropLast_eq_take, List.dropLast_eq_take, q.length]
          exact (q.take _).mono (le_set h1 trivial)
        · exact h.elim
    · exact h.elim
  · exact h.elim
theorem bm_popAt : MtR X "list.pop" (rBm X.K cl .popAt) := by
  intro pins s σ H x vs v us Q I rx rv ⟨m, S, d, ds, R, r1, rd, h⟩
  replace h : mPopAt d ds S (up X.K cl m H Q) := h
  unfold mPopAt at h
  split at h
  · rename_i n i
    obtain ⟨y, rfl, r2⟩ := rd.one
    cases r2
    split at h
    · rename_i l g
      cases r1 with
      | ref hm =>
        obtain ⟨ws, h1, q⟩ := R.at_ _ _ _ hm g
        split at h
        · rename_i j ej
          split at h
          · rename_i y ey
            obtain ⟨w, hw, rw'⟩ := q.get ey
            rw [q.length] at ej
            obtain ⟨k1, k2, k3, k4⟩ := ixN_seq ej
            obtain ⟨its, rv', pl, hz⟩ := I.list (SqL.of (K := X.K) h1)
            have h63 := line63
            refine mt_popAt pins s σ H _ _ v us Q I rx rv ⟨_, ws, i, j, w, rfl, rfl, h1, by omega, by omega, k1, hw, ?_⟩
            exact h _ _ _ (le_set h1 trivial) (R.set hm h1 trivial ⟨_, upd_same, (q.eraseIdx j).mono (le_set h1 trivial)⟩) (rw'.mono (le_set h1 trivial))
          · exact h.elim
        · exact h.elim
    · exact h.elim
  · exact h.elim
theorem bm_insert : MtR X "list.insert" (rBm X.K cl .insert) := by
  intro pins s σ H x vs v us Q I rx rv ⟨m, S, d, ds, R, r1, rd, h⟩
  replace h : mInsert d ds S (up X.K cl m H Q) := h
  unfold mInsert at h
  split at h
  · rename_i n i e
    obtain ⟨y, z, rfl, r2, r3⟩ := rd.two
    cases r2
    split at h
    · rename_i l g
      cases r1 with
      | ref hm =>
        obtain ⟨ws, h1, q⟩ := R.at_ _ _ _ hm g
        obtain ⟨a1, a2, a3, a4⟩ := h
        have hl := lim_le
        have := q.length
        refine mt_insert pins s σ H _ _ v us Q I rx rv ⟨_, ws, i, z, rfl, rfl, h1, by omega, a2, by omega, ?_⟩
        refine a4 _ _ _ (le_set h1 trivial) (R.set hm h1 trivial ⟨_, upd_same, ?_⟩) .non
        exact (((q.take _).append (.cons r3 .nil)).append (q.drop _)).mono (le_set h1 trivial)
    · exact h.elim
  · exact h.elim
theorem idx_get {x : D} : ∀ {l : List D} {j : Nat}, idx? x l = some j → (∃ z, l[j]? = some z ∧ z.sEq x = true) ∧ ∀ k z, k < j → l[k]? = some z → z.sEq x = false
  | [], _, e => by cases e
  | y :: r, j, e => by
    unfold idx? at e
    split at e
    · rename_i hy
      cases e
      exact ⟨⟨y, rfl, hy⟩, fun k z hk => by omega⟩
    · rename_i hy
      cases e2 : idx? x r with
      | none => rw [e2] at e; cases e
      | some i =>
        rw [e2] at e
        cases e
        obtain ⟨⟨z, h1, h2⟩, h3⟩ := idx_get e2
        refine ⟨⟨z, by simpa using h1, h2⟩, fun k w hk hw => ?_⟩
        cases k with
        | zero =>
          have : y = w := by simpa using hw
          subst this
          simpa using hy
        | succ k => exact h3 k w (Nat.lt_of_succ_lt_succ hk) (by simpa using hw)
theorem bm_index : MtR X "list.index" (rBm X.K cl .index) := by
  intro pins s σ H x vs v us Q I rx rv ⟨m, S, d, ds, R, r1, rd, h⟩
  replace h : mIndex d ds S (up X.K cl m H Q) := h
  unfold mIndex at h
  split at h
  · obtain ⟨y, rfl, r2⟩ := rd.one
    split at h
    · rename_i l e
      obtain ⟨a, ws, rfl, hq, q⟩ := r1.lq R e
      split at h
      · rename_i j ej
        obtain ⟨a1, a2, a3⟩ := h
        obtain ⟨⟨z, h1, h2⟩, h3⟩ := idx_get ej
        obtain ⟨w, hw, rw'⟩ := q.get h1
        have sz := List.all_eq_true.mp a2 z (List.mem_of_getElem? h1)
        refine mt_index pins s σ H _ _ v us Q I rx rv ⟨a, ws, y, j, w, rfl, rfl, hq, r2.flat a1, q.flat a2, hw, by rw [rw'.sEq r2 sz a1]; exact h2, fun k z' hk hz' => ?_, up_here a3 R (.int _)⟩
        obtain ⟨c, hc, rc⟩ := q.getV hz'
        rw [rc.sEq r2 (List.all_eq_true.mp a2 c (List.mem_of_getElem? hc)) a1]
        exact h3 k c hk hc
      · exact h.elim
    · exact h.elim
  · exact h.elim
theorem ints_map : ∀ {l : List D}, (ints? l).isSome = true → ∃ ns, ints? l = some ns ∧ l = ns.map D.int
  | [], _ => ⟨[], rfl, rfl⟩
  | d :: r, h => by
    cases d with
    | int i =>
      unfold ints? at h
      cases e : ints? r with
      | none => rw [e] at h; cases h
      | some ns =>
        obtain ⟨ns', e1, e2⟩ := ints_map (l := r) (by rw [e]; rfl)
        exact ⟨i :: ns', by unfold ints?; rw [e1]; rfl, by rw [e2]; rfl⟩
    | _ => cases h
theorem erase_map {α β : Type} (f : α → β) : ∀ (l : List α) (j : Nat), (l.map f).eraseIdx j = (l.eraseIdx j).map f
  | [], _ => rfl
  | _ :: _, 0 => rfl
  | a :: l, j + 1 => by
    show f a :: (l.map f).eraseIdx j = f a :: (l.eraseIdx j).map f
    rw [erase_map f l j]
theorem bm_remove : MtR X "list.remove" (rBm X.K cl .remove) := by
  intro pins s σ H x vs v us Q I rx rv ⟨m, S, d, ds, R, r1, rd, h⟩
  replace h : mRemove d ds S (up X.K cl m H Q) := h
  unfold mRemove at h
  split at h
  · rename_i n e
    obtain ⟨y, rfl, r2⟩ := rd.one
    split at h
    · rename_i l g
      cases r1 with
      | ref hm =>
        obtain ⟨ws, h1, q⟩ := R.at_ _ _ _ hm g
        split at h
        · rename_i j ej
          obtain ⟨a1, a2, a3⟩ := h
          obtain ⟨ns, e1, e2⟩ := ints_map a1
          obtain ⟨ks, k1, k2⟩ := ints_map a2
          have ews := q.ints e1
          subst e2 ews
          obtain ⟨i, rfl⟩ : ∃ i, e = .int i := by
            cases ks with
            | nil => cases k2
            | cons i r => exact ⟨i, by injection k2⟩
          cases r2
          obtain ⟨⟨z, z1, z2⟩, z3⟩ := idx_get ej
          have zn : ns[j]? = some i := by
            rw [List.getElem?_map] at z1
            cases c : ns[j]? with
            | none => rw [c] at z1; cases z1
            | some w =>
              rw [c] at z1
              cases z1
              have : w = i := by simpa [D.sEq] using z2
              rw [this]
          refine mt_remove pins s σ H _ _ v us Q I rx rv ⟨_, ns, i, j, rfl, rfl, h1, zn, fun k hk hz => ?_, ?_⟩
          · have := z3 k (.int i) hk (by rw [List.getElem?_map, hz]; rfl)
            simp [D.sEq] at this
          · refine a3 _ _ _ (le_set h1 trivial) (R.set hm h1 trivial ⟨_, upd_same, ?_⟩) .non
            have := (q.eraseIdx j).mono (le_set (u := .lst ((ns.eraseIdx j).map V.int)) h1 trivial)
            rwa [erase_map V.int] at this
        · exact h.elim
    · exact h.elim
  · exact h.elim
theorem key_of_rd {d : D} {v : V} {k : Key} (r : RD K m H d v) (e : keyOf d = some k) : v = kV k := by
  cases r <;> first | (cases e; done) | (cases e; rfl)
theorem KR.valV {l : List (Key × D)} {kvs : List (Key × V)} (r : KR K m H l kvs) (k : Key) : (∃ d v, dGet l k = some d ∧ L2.valV kvs k = some v ∧ RD K m H d v) ∨ (dGet l k = none ∧ L2.valV kvs k = none) := KR.get k r
theorem bm_get1 (hu : X.A.units + 650 < cLine) : MtR X "dict.get" (rBm X.K cl .get1) := by
  intro pins s σ H x vs v us Q I rx rv ⟨m, S, d, ds, R, r1, rd, h⟩
  replace h : mGet1 d ds S (up X.K cl m H Q) := h
  unfold mGet1 at h
  split at h
  · obtain ⟨y, rfl, r2⟩ := rd.one
    unfold mGet at h
    split at h
    · rename_i kvs k e1 e2
      obtain ⟨n, a, l, rfl, hm, rfl, g, h1, q⟩ := r1.dct R e1
      have ey := key_of_rd r2 e2
      subst ey
      cases rx
      obtain ⟨u, rfl, ru⟩ := vals1 rv
      refine d_get1 (by omega) I (DGet.k h1) ru fun w' s' I' rw' => ⟨_, H, I', rw', ?_⟩
      rcases q.valV k with ⟨d, w, g1, g2, g3⟩ | ⟨g1, g2⟩
      · rw [g2]; rw [g1] at h; exact up_here h R g3
      · rw [g2]; rw [g1] at h; exact up_here h R .non
    · exact h.elim
  · exact h.elim
theorem bm_get2 (hu : X.A.units + 650 < cLine) : MtR X "dict.get" (rBm X.K cl .get2) := by
  intro pins s σ H x vs v us Q I rx rv ⟨m, S, d, ds, R, r1, rd, h⟩
  replace h : mGet2 d ds S (up X.K cl m H Q) := h
  unfold mGet2 at h
  split at h
  · obtain ⟨y, z, rfl, r2, r3⟩ := rd.two
    unfold mGet at h
    split at h
    · rename_i kvs k e1 e2
      obtain ⟨n, a, l, rfl, hm, rfl, g, h1, q⟩ := r1.dct R e1
      have ey := key_of_rd r2 e2
      subst ey
      cases rx
      cases rv with
      | cons ru rv =>
        obtain ⟨w, rfl, rw0⟩ := vals1 rv
        refine d_get2 (by omega) I (DGet.k h1) ru rw0 fun w' s' I' rw' => ⟨_, H, I', rw', ?_⟩
        rcases q.valV k with ⟨d, w, g1, g2, g3⟩ | ⟨g1, g2⟩
        · rw [g2]; rw [g1] at h; exact up_here h R g3
        · rw [g2]; rw [g1] at h; exact up_here h R r3
    · exact h.elim
  · exact h.elim
theorem bm_dpop : MtR X "dict.pop" (rBm X.K cl .dpop) := by
  intro pins s σ H x vs v us Q I rx rv ⟨m, S, d, ds, R, r1, rd, h⟩
  replace h : mDpop d ds S (up X.K cl m H Q) := h
  unfold mDpop at h
  split at h
  · obtain ⟨y, rfl, r2⟩ := rd.one
    split at h
    · rename_i kvs k g e2
      split at h
      · rename_i w ew
        cases r1 with
        | ref hm =>
          obtain ⟨l, h1, q⟩ := R.at_ _ _ _ hm g
          have ey := key_of_rd r2 e2
          subst ey
          cases rx
          obtain ⟨u, rfl, ru⟩ := vals1 rv
          rcases q.valV k with ⟨d, w', g1, g2, g3⟩ | ⟨g1, g2⟩
          · rw [g1] at ew
            cases ew
            refine d_pop I h1 ru g2 (.inl rfl) fun w' s' I' rw' => ⟨_, _, I', rw', ?_⟩
            exact h _ _ _ (le_set h1 trivial) (R.set hm h1 trivial ⟨_, upd_same, (q.drop k).mono (le_set h1 trivial)⟩) (g3.mono (le_set h1 trivial))
          · rw [g1] at ew; cases ew
      · exact h.elim
    · exact h.elim
  · exact h.elim
theorem bm_bits : MtR X "int.bit_length" (rBm X.K cl .bitlen) := by
  intro pins s σ H x vs v us Q I rx rv ⟨m, S, d, ds, R, r1, rd, h⟩
  replace h : mBitlen d ds S (up X.K cl m H Q) := h
  unfold mBitlen at h
  split at h
  · cases rd
    cases r1
    cases rv
    obtain ⟨t, rfl⟩ := rx
    exact call_int_bit_length ⟨.int _, H, I.tok _, ⟨_, rfl⟩, up_here h R (.int _)⟩
  · exact h.elim
theorem blt_dict : CallR X (.type "dict") (rBt X.K cl .dict1) := by
  intro pins s σ H xs us Q I r ⟨m, S, ds, R, rd, h⟩
  replace h : bDict ds S (up X.K cl m H Q) := h
  unfold bDict at h
  split at h
  · obtain ⟨v, rfl, r1⟩ := rd.one
    split at h
    · rename_i kvs e
      obtain ⟨n, a, l, rfl, hm, rfl, h1, q⟩ := r1.dctr R e
      obtain ⟨u, rfl, ru⟩ := vals1 r
      cases ru
      exact d_copyOf I h1 fun p s' np I' => ⟨.ref p, _, I', rfl, h _ _ _ (le_push np) (R.push np ⟨_, upd_same, q.mono (le_push np)⟩) (.ref (R.last p))⟩
    · exact h.elim
  · exact h.elim
end
end Mn
namespace Mn
open PySem PySem.Spec PyProof.Rows L2
def orbL : Nat → Nat → List Nat
  | 0, _ => []
  | n + 1, x => x :: orbL n ((x * 5 + 1) % 512)
theorem orb_all : ((List.range 512).all fun j => (orbL 512 0).contains j) = true := by decide +kernel
theorem orb_back : lcgI 511 0 512 = 0 := by decide +kernel
theorem orb_mem : ∀ (n x j : Nat), j ∈ orbL n x → ∃ k, k < n ∧ lcgI 511 x k = j
  | 0, _, _, h => nomatch h
  | n + 1, x, j, h => by
    rcases List.mem_cons.mp h with z | z
    · exact ⟨0, Nat.succ_pos _, z.symm⟩
    · obtain ⟨k, hk, e⟩ := orb_mem n _ j z
      refine ⟨k + 1, Nat.succ_lt_succ hk, ?_⟩
      have key : ∀ q, lcgI 511 ((x * 5 + 1) % 512) q = lcgI 511 x (q + 1) := by
        intro q
        induction q with
        | zero => rfl
        | succ q ih =>
          show (lcgI 511 ((x * 5 + 1) % 512) q * 5 + 1) % 512 = (lcgI 511 x (q + 1) * 5 + 1) % 512
          rw [ih]
      rw [← key k, e]
theorem lcg_comp (x a : Nat) : ∀ b, lcgI 511 (lcgI 511 x a) b = lcgI 511 x (a + b)
  | 0 => rfl
  | b + 1 => by
    show (lcgI 511 (lcgI 511 x a) b * 5 + 1) % 512 = (lcgI 511 x (a + b) * 5 + 1) % 512
    rw [lcg_comp x a b]
theorem orb_to {j : Nat} (hj : j ≤ 511) : ∃ k, k < 512 ∧ lcgI 511 0 k = j := by
  have h := List.all_eq_true.mp orb_all j (List.mem_range.mpr (Nat.lt_succ_of_le hj))
  exact orb_mem 512 0 j (by simpa using h)
theorem orb_from {i j : Nat} (hi : i ≤ 511) (hj : j ≤ 511) : ∃ k, k ≤ 511 ∧ lcgI 511 i k = j := by
  obtain ⟨a, ha, ea⟩ := orb_to hi
  obtain ⟨b, hb, eb⟩ := orb_to hj
  subst ea
  by_cases c : a ≤ b
  · refine ⟨b - a, by omega, ?_⟩
    rw [lcg_comp, Nat.add_sub_cancel' c]
    exact eb
  · refine ⟨512 + b - a, by omega, ?_⟩
    rw [lcg_comp, show a + (512 + b - a) = 512 + b by omega, ← lcg_comp 0 512 b, orb_back]
    exact eb
def MaskG (m : Nat) : Prop := MaskOk m ∨ m = 511
theorem meetG {m : Nat} (hm : MaskG m) (h : Int) {j : Nat} (hj : j ≤ m) : ∃ n, n ≤ m + 12 ∧ runI m (SetTable.bits h) n = j := by
  rcases hm with hm | rfl
  · exact run_meets hm h hj
  · obtain ⟨k, hk, e⟩ := orb_from (runI_le 511 (SetTable.bits h) 12) hj
    refine ⟨12 + k, by omega, ?_⟩
    rw [runI_tail (bits_lt h)]
    exact e
theorem wayG {m : Nat} (h : Int) (k : Nat) : way m h k ≤ m := by
  have hi : SetTable.bits h % (m + 1) ≤ m := Nat.le_of_lt_succ (Nat.mod_lt _ (Nat.succ_pos _))
  have r := runEnd_bd hi
  have z : (runAt m (SetTable.bits h % (m + 1)) (SetTable.bits h)).j + (runAt m (SetTable.bits h % (m + 1)) (SetTable.bits h)).more ≤ m := by
    show SetTable.bits h % (m + 1) + (SetTable.runEnd m (SetTable.bits h % (m + 1)) - SetTable.bits h % (m + 1)) ≤ m
    omega
  exact Nat.le_trans (Nat.le_add_right _ _) (nth_in k _ z)
structure TabG (t : SetTable) (n : Nat) : Prop where
  ris : Ris t.place.toList
  dum : t.dummies = #[]
  cnt : t.place.size = n
  msk : MaskG t.mask
  low : ∀ x ∈ t.place.toList, x ≤ t.mask
theorem TabG.spot {t : SetTable} {n : Nat} (T : TabG t n) (hn : n ≤ t.mask) (h : Int) : ∃ K, K < 10 * SetTable.turns t.mask ∧ way t.mask h K ∉ t.place.toList ∧ ∀ k, k < K → way t.mask h k ∈ t.place.toList := by
  obtain ⟨j, hj, no⟩ := st_missing t.place.toList (t.mask + 1) (by rw [Array.length_toList, T.cnt]; omega)
  obtain ⟨r, hr, er⟩ := meetG T.msk h (Nat.le_of_lt_succ hj)
  obtain ⟨k, hk, ek⟩ := run_nth t.mask (SetTable.bits h) r
  have wk : way t.mask h k = j := by
    show (nth t.mask (runAt t.mask (SetTable.bits h % (t.mask + 1)) (SetTable.bits h)) k).j = j
    rw [ek]
    exact er
  obtain ⟨K, l1, l2, l3⟩ := st_least (p := fun q => way t.mask h q ∉ t.place.toList) k (by rw [← wk] at no; exact no)
  refine ⟨K, ?_, l2, fun q hq => Classical.byContradiction (l3 q hq)⟩
  have : SetTable.turns t.mask = t.mask + 15 := rfl
  omega
theorem TabG.see {t : SetTable} {n : Nat} (T : TabG t n) (hn : n ≤ t.mask) {h : Int} {f : Nat → Int} (hf : ∀ i, i < n → f i ≠ h) : ∃ j, j ≤ t.mask ∧ j ∉ t.place.toList ∧ t.probe f h (t.probeStart h) = some (.empty j none) := by
  obtain ⟨K, k1, k2, k3⟩ := T.spot hn h
  refine ⟨_, wayG h K, k2, ?_⟩
  rcases go_spec t T.ris T.dum f h (10 * SetTable.turns t.mask) K (t.probeStart h) rfl k1 k3 k2 with ⟨q, i, _, hi, hh, _⟩ | ⟨_, e⟩
  · exact absurd hh (hf i (by rw [← T.cnt, ← Array.length_toList]; exact (List.getElem?_eq_some_iff.mp hi).1))
  · exact e
theorem TabG.plus {t : SetTable} {n j : Nat} (T : TabG t n) (hj : j ≤ t.mask) (no : j ∉ t.place.toList) : TabG (t.put j).1 (n + 1) ∧ SetTable.below t.place j ≤ n ∧ (t.put j).1.fill = n + 1 := by
  have hb : SetTable.below t.place j ≤ t.place.toList.length := by rw [Array.length_toList]; exact (below_cut T.ris j).1
  have pp := put_place t j
  have len : (t.put j).1.place.toList.length = n + 1 := by rw [pp, len_ins _ hb, Array.length_toList, T.cnt]
  have dm := put_dm T.dum j
  refine ⟨⟨ris_insert T.ris fun e => no (List.mem_of_getElem? (by rw [Array.getElem?_toList]; exact e)), dm, len, T.msk, fun x hx => ?_⟩, by rw [← T.cnt]; exact hb, ?_⟩
  · rw [pp] at hx
    rcases mem_ins.mp hx with z | z
    · exact z ▸ hj
    · exact T.low x z
  · unfold SetTable.fill
    rw [dm]
    exact len
theorem freeG {m : Nat} {ow : Array (Option Nat)} (sz : ow.size = m + 1) : ∀ (f n i b : Nat), n < f → i ≤ m → oAt ow (itL m i b n).1 = none → ∃ j, SetTable.layClean.free m ow f i b = some j ∧ j ≤ m ∧ oAt ow j = none
  | 0, _, _, _, h, _, _ => absurd h (Nat.not_lt_zero _)
  | f + 1, n, i, b, h, hi, hz => by
    rw [free_succ]
    have rb := runEnd_bd hi
    cases e : (List.range (SetTable.runEnd m i + 1 - i)).find? fun k => (oAt ow (i + k)).isNone with
    | some k =>
      have h1 := List.mem_range.mp (List.mem_of_find?_eq_some e)
      have h2 := List.find?_some e
      exact ⟨i + k, rfl, by omega, by simpa using h2⟩
    | none =>
      cases n with
      | zero =>
        exfalso
        have h3 := List.find?_eq_none.mp e 0 (List.mem_range.mpr (by omega))
        have hz : oAt ow i = none := hz
        rw [Nat.add_zero, hz] at h3
        exact h3 rfl
      | succ n => exact freeG sz f n _ _ (Nat.lt_of_succ_lt_succ h) (leap_le m i b) hz
structure OwG (m n : Nat) (ow : Array (Option Nat)) : Prop where
  sz : ow.size = m + 1
  ex : ∃ g : Nat → Nat, (∀ k, k < n → g k ≤ m ∧ oAt ow (g k) = some k) ∧ ∀ j k, j ≤ m → oAt ow j = some k → k < n ∧ g k = j
theorem OwG.zero (m : Nat) : OwG m 0 (Array.replicate (m + 1) none) := ⟨by simp, fun _ => 0, fun k h => absurd h (Nat.not_lt_zero k), fun j k hj e => by rw [oAt_init hj] at e; cases e⟩
theorem OwG.next {m n : Nat} {ow : Array (Option Nat)} (W : OwG m n ow) (hm : MaskG m) (hn : n ≤ m) (h : Int) : ∃ j, SetTable.layClean.free m ow (SetTable.turns m) (SetTable.bits h % (m + 1)) (SetTable.bits h) = some j ∧ OwG m (n + 1) (ow.setIfInBounds j (some n)) := by
  obtain ⟨g, g1, g2⟩ := W.ex
  obtain ⟨j0, hj0, no⟩ := st_missing ((List.range n).map g) (m + 1) (by rw [List.length_map, List.length_range]; omega)
  have z0 : oAt ow j0 = none := by
    cases e : oAt ow j0 with
    | none => rfl
    | some k =>
      obtain ⟨q1, q2⟩ := g2 j0 k (Nat.le_of_lt_succ hj0) e
      exact absurd (List.mem_map.mpr ⟨k, List.mem_range.mpr q1, q2⟩) no
  obtain ⟨r, hr, er⟩ := meetG hm h (Nat.le_of_lt_succ hj0)
  obtain ⟨j, ej, hj, zj⟩ := freeG W.sz (SetTable.turns m) r (SetTable.bits h % (m + 1)) (SetTable.bits h) (by have : SetTable.turns m = m + 15 := rfl; omega) (Nat.le_of_lt_succ (Nat.mod_lt _ (Nat.succ_pos _))) (by rw [itL_run]; show oAt ow (runI m (SetTable.bits h) r) = none; rw [er]; exact z0)
  refine ⟨j, ej, by rw [Array.size_setIfInBounds]; exact W.sz, fun k => if k = n then j else g k, fun k hk => ?_, fun i k hi e => ?_⟩
  · dsimp only
    by_cases c : k = n
    · rw [if_pos c, c]
      exact ⟨hj, oAt_set_self _ (by rw [W.sz]; omega)⟩
    · rw [if_neg c]
      obtain ⟨q1, q2⟩ := g1 k (by omega)
      exact ⟨q1, by rw [oAt_set_ne _ fun z => by rw [z, zj] at q2; cases q2]; exact q2⟩
  · dsimp only
    by_cases c : i = j
    · rw [c, oAt_set_self _ (by rw [W.sz]; omega)] at e
      cases e
      exact ⟨Nat.lt_succ_self _, by rw [if_pos rfl, c]⟩
    · rw [oAt_set_ne _ c] at e
      obtain ⟨q1, q2⟩ := g2 i k hi e
      exact ⟨by omega, by rw [if_neg (by omega)]; exact q2⟩
theorem foldG {m : Nat} (hm : MaskG m) : ∀ (hs : List Int) (n : Nat) (ow : Array (Option Nat)), OwG m n ow → n + hs.length ≤ m → ∃ ow', hs.foldl (stepF m) (some (ow, n)) = some (ow', n + hs.length) ∧ OwG m (n + hs.length) ow'
  | [], n, ow, W, _ => ⟨ow, rfl, W⟩
  | h :: hs, n, ow, W, hl => by
    rw [List.length_cons] at hl
    obtain ⟨j, e, W1⟩ := W.next hm (by omega) h
    obtain ⟨ow', f, W2⟩ := foldG hm hs (n + 1) _ W1 (by omega)
    refine ⟨ow', ?_, ?_⟩
    · rw [List.foldl_cons, stepF_some e, f, List.length_cons, show n + 1 + hs.length = n + (hs.length + 1) by omega]
    · rw [List.length_cons, show n + (hs.length + 1) = n + 1 + hs.length by omega]
      exact W2
theorem layG (t : SetTable) {hs : Array Int} {want M : Nat} (hw : SetTable.sizeAbove want - 1 = M) (hM : MaskG M) (hn : hs.size ≤ M) : ∃ t' ord, t.relaid hs want = some (t', ord) ∧ ord.toList.Perm (List.range hs.size) ∧ TabG t' hs.size ∧ t'.mask = M ∧ t'.led = t.led ∧ t'.plain = t.plain := by
  obtain ⟨ow, f, W⟩ := foldG hM hs.toList 0 _ (OwG.zero M) (by rw [Nat.zero_add, Array.length_toList]; exact hn)
  rw [Nat.zero_add, Array.length_toList] at f W
  have e : t.relaid hs want = some (tabOf t M ow, ((liveOf M ow).map (·.2)).toArray) := by
    rw [relaid_eq, hw, layClean_eq, f]
    rfl
  obtain ⟨g, g1, g2⟩ := W.ex
  have rs := (relaid_ris e).1
  have nd : ((liveOf M ow).map (·.1)).Nodup := List.Pairwise.imp (fun h => Nat.ne_of_lt h) (show Ris ((liveOf M ow).map (·.1)) from rs)
  have mem : ∀ {k : Nat}, k ∈ (liveOf M ow).map (·.2) ↔ k < hs.size := fun {k} => by
    constructor
    · intro hk
      obtain ⟨⟨j, q⟩, hq, rfl⟩ := List.mem_map.mp hk
      obtain ⟨a, b⟩ := (mem_live W.sz).mp hq
      exact (g2 j q a b).1
    · intro hk
      obtain ⟨a, b⟩ := g1 k hk
      exact List.mem_map.mpr ⟨(g k, k), (mem_live W.sz).mpr ⟨a, b⟩, rfl⟩
  have nd2 : ((liveOf M ow).map (·.2)).Nodup := by
    refine List.pairwise_map.mpr (List.Pairwise.imp_of_mem (fun {p q} hp hq ne z => ne ?_) (List.pairwise_map.mp nd))
    obtain ⟨a, b⟩ := (mem_live W.sz).mp (show (p.1, p.2) ∈ liveOf M ow from hp)
    obtain ⟨c, d⟩ := (mem_live W.sz).mp (show (q.1, q.2) ∈ liveOf M ow from hq)
    rw [← (g2 _ _ a b).2, ← (g2 _ _ c d).2, z]
  have pm : ((liveOf M ow).map (·.2)).Perm (List.range hs.size) := (List.perm_ext_iff_of_nodup nd2 List.nodup_range).mpr fun k => by rw [mem, List.mem_range]
  refine ⟨_, _, e, pm, ⟨rs, rfl, ?_, hM, fun x hx => ?_⟩, rfl, rfl, rfl⟩
  · show ((liveOf M ow).map (·.1)).toArray.size = hs.size
    have := pm.length_eq
    rw [List.length_map, List.length_range] at this
    rw [List.size_toArray, List.length_map, this]
  · obtain ⟨⟨j, q⟩, hq, rfl⟩ := List.mem_map.mp (show x ∈ (liveOf M ow).map (·.1) from hx)
    exact ((mem_live W.sz).mp hq).1
end Mn
namespace Mn
open PySem PySem.Spec PyProof.Rows L2
abbrev set00 (w : World) : Obj := { cls := .type "set", dict := none, data := .set #[] 0 (.fresh 0 0 (!w.params.followText "set-order")) }
abbrev Tps := List (Addr × List Int)
structure SetG (P : Program) (w : World) (h : Heap) (a : Addr) (L : Tps) (es : Array (Int × Value)) (ep : Nat) (t : SetTable) : Prop where
  at_ : ∃ o, h.get? a = some o ∧ o.ExactSet ∧ o.data = .set es ep t
  row : es.toList = rowsOf P w L
  tab : TabG t L.length
  pla : t.plain = true
  led : w.params.followText "set-order" = true ∨ t.led = true
  rom : L.length * 5 < t.mask * 3
  few : L.length ≤ 300
section
variable {P : Program} {w : World} {A : Around} {E : Value → Shared → Prop} {s : Shared} {a : Addr} {L : Tps} {es : Array (Int × Value)} {ep : Nat} {t : SetTable}
theorem rows_size {L : Tps} {es : Array (Int × Value)} (h : es.toList = rowsOf P w L) : es.size = L.length := by
  rw [← Array.length_toList, h]
  exact List.length_map _
theorem fitG {t : SetTable} {n m : Nat} (T : TabG t n) (hn : n ≤ t.mask) (e : m = n) : t.fits m = true := by
  subst e
  unfold SetTable.fits SetTable.fill
  rw [T.dum, T.cnt]
  simpa using hn
theorem oddG {m : Nat} (h : MaskG m) : m % 2 = 1 := by
  rcases h with (e | e | e) | e <;> rw [e]
theorem SetG.fit (R : SetG P w s.heap a L es ep t) : t.fits es.size = true := fitG R.tab (by have := R.rom; omega) (rows_size R.row)
theorem SetG.move {h h' : Heap} (R : SetG P w h a L es ep t) (k : ∀ o, h.get? a = some o → h'.get? a = some o) : SetG P w h' a L es ep t := by
  obtain ⟨o, ho, r⟩ := R.at_
  exact ⟨⟨o, k o ho, r⟩, R.row, R.tab, R.pla, R.led, R.rom, R.few⟩
theorem size_308 : SetTable.sizeAbove (SetTable.grown 77) = 512 := by decide +kernel
theorem lookG (R : SetG P w s.heap a L es ep t) {x : Value} {h : Int} (ne : ∀ p ∈ L, thash P w p.2 ≠ h) {Q : SetFound → Shared → Prop} (q : ∀ j, j ≤ t.mask → j ∉ t.place.toList → Q (.free j false) s) :
    wpAny (model P w) A (setSearch a x h true) Q E s := by
  obtain ⟨o, ho, hx, hd⟩ := R.at_
  have rz := rows_size R.row
  obtain ⟨j, j1, j2, j3⟩ := R.tab.see (by have := R.rom; omega) (h := h) (f := fun i => (es[i]?.map (·.1)).getD 0) fun i hi => by
    have e : es[i]? = some (thash P w (L[i]).2, Value.ref (L[i]).1) := by
      rw [← Array.getElem?_toList, R.row]
      unfold rowsOf
      rw [List.getElem?_map, List.getElem?_eq_getElem hi]
      rfl
    show (es[i]?.map (·.1)).getD 0 ≠ h
    rw [e]
    exact ne _ (List.getElem_mem hi)
  unfold setSearch
  rw [show (100000 : Nat) = 99999 + 1 from rfl, setSearchFrom_succ]
  refine wpAny_bind (wpAny_setState_of ho hd R.fit ?_)
  dsimp only
  refine wp_if_neg (by unfold SetTable.gaveWay; rw [oddG R.tab.msk]; decide) ?_
  try refine wpAny_bind (wpAny_pure ?_)
  rw [show (none : Option SetTable.Probe).getD (t.probeStart h) = t.probeStart h from rfl, j3]
  exact wpAny_pure (q j j1 j2)
theorem relayG {o : Obj} (ho : s.heap.get? a = some o) (hx : o.ExactSet) (hd : o.data = .set es ep t) (hr : es.toList = rowsOf P w L) (T : TabG t L.length) (hl : L.length ≤ t.mask) (pl : t.plain = true) (ld : w.params.followText "set-order" = true ∨ t.led = true) (few : L.length ≤ 300) {want M : Nat}
    (hw : SetTable.sizeAbove want - 1 = M) (hM : MaskG M) (hw2 : SetTable.sizeAbove want ≤ 512) (hn : L.length * 5 < M * 3) {Q : Unit → Shared → Prop}
    (q : ∀ h' L' es' ep' t', Heap.SameBut a s.heap h' → SetG P w h' a L' es' ep' t' → L'.Perm L → Q () { s with heap := h' }) : wpAny (model P w) A (setRelay a want) Q E s := by
  have rz := rows_size hr
  obtain ⟨t', ord, e, pm, T', em, el, epl⟩ := layG t (hs := es.map (·.1)) hw hM (by rw [Array.size_map, rz]; omega)
  rw [Array.size_map, rz] at pm T'
  obtain ⟨L2, r1, r2, _⟩ := order_rows L es ord hr pm
  have z2 : (ord.filterMap (es[·]?)).size = L.length := by rw [rows_size r1, r2.length_eq]
  rw [setRelay_eq]
  refine wpAny_bind (wpAny_setState_of ho hd (fitG T hl rz) ?_)
  dsimp only
  refine wp_if_neg (by rw [sizeLine_eq]; omega) ?_
  try refine wpAny_bind (wpAny_pure ?_)
  rw [e]
  dsimp only
  refine wpAny_bind ?_
  refine wp_if_neg (by rw [z2, rz]; simp) ?_
  try refine wpAny_bind (wpAny_pure ?_)
  refine wpAny_pure ?_
  dsimp only
  refine wpAny_storeSet_of ho hd ?_ (by rw [z2, sizeLine_eq]; omega)
  have sb : Heap.SameBut a s.heap (s.heap.update a (Obj.putSet (ord.filterMap (es[·]?)) t')) := Heap.SameBut.update ..
  refine q _ L2 (ord.filterMap (es[·]?)) (ep + 1) t' sb ⟨⟨_, store_at ho hd, ⟨hx.1, hx.2.1, hx.2.2⟩, rfl⟩, r1, by rw [r2.length_eq]; exact T', by rw [epl]; exact pl, by rw [el]; exact ld, ?_, by rw [r2.length_eq]; exact few⟩ r2
  rw [r2.length_eq, em]
  exact hn
theorem addG (R : SetG P w s.heap a L es ep t) {x : Addr} {k : List Int} (hx : IsT P w s.heap k x) (few : L.length + 1 ≤ 300) (ne : ∀ p ∈ L, thash P w p.2 ≠ thash P w k) {Q : Bool → Shared → Prop}
    (q : ∀ h' L' es' ep' t', Heap.SameBut a s.heap h' → SetG P w h' a L' es' ep' t' → L'.Perm ((x, k) :: L) → Q true { s with heap := h' }) :
    wpAny (model P w) A (setAddHashed a (.ref x) (thash P w k)) Q E s := by
  obtain ⟨o, ho, hex, hd⟩ := R.at_
  have rz := rows_size R.row
  have rom := R.rom
  unfold setAddHashed
  refine wpAny_holding ?_
  rw [show (100000 : Nat) = 99999 + 1 from rfl, setAddHashedIn_succ]
  refine wpAny_bind (wpAny_setState_of ho hd R.fit ?_)
  dsimp only
  refine wp_if_neg (by simp [byScan, Value.scannable]) ?_
  try refine wpAny_bind (wpAny_pure ?_)
  refine wpAny_bind (lookG R ne fun j hj no => ?_)
  dsimp only
  refine wpAny_bind (wpAny_setState_of ho hd R.fit ?_)
  dsimp only
  obtain ⟨T1, hb, fl⟩ := R.tab.plus hj no
  have p1 : (t.put j).1.plain = true := R.pla
  have m1 : (t.put j).1.mask = t.mask := rfl
  have l1 : (t.put j).1.led = t.led := rfl
  have r1 : (SetTable.insertAt es (t.put j).2 (thash P w k, Value.ref x)).toList = rowsOf P w (L.take (t.put j).2 ++ (x, k) :: L.drop (t.put j).2) := by rw [SetTable.toList_insertAt, rows_put, R.row]
  have pm := put_perm L (t.put j).2 (x, k)
  generalize L.take (t.put j).2 ++ (x, k) :: L.drop (t.put j).2 = L1 at r1 pm
  generalize t.put j = pt at T1 fl p1 m1 l1 r1 ⊢
  obtain ⟨t1, p⟩ := pt
  dsimp only at T1 fl p1 m1 l1 r1 ⊢
  first
    | (refine wpAny_bind ?_; refine wp_if_pos p1 ?_; refine hashBy_tup hx ?_)
    | refine wp_if_pos p1 (wpAny_bind (hashBy_tup hx ?_))
  simp only [if_true]
  have len : L1.length = L.length + 1 := pm.length_eq
  have z1 := rows_size r1
  generalize SetTable.insertAt es p (thash P w k, Value.ref x) = es1 at r1 z1 ⊢
  refine wpAny_bind (wpAny_storeSet_of ho hd ?_ (by rw [z1, len, sizeLine_eq]; omega))
  have sb : Heap.SameBut a s.heap (s.heap.update a (Obj.putSet es1 t1)) := Heap.SameBut.update ..
  have ho1 := store_at (es' := es1) (t' := t1) ho hd
  generalize s.heap.update a (Obj.putSet es1 t1) = h1 at sb ho1 ⊢
  have ld1 : w.params.followText "set-order" = true ∨ t1.led = true := by rw [l1]; exact R.led
  rw [← len] at T1
  have full : t1.tooFull = decide ((L.length + 1) * 5 ≥ t.mask * 3) := by
    unfold SetTable.tooFull
    rw [fl, m1]
  by_cases c : (L.length + 1) * 5 ≥ t.mask * 3
  · have hf : t1.tooFull = true := by rw [full]; exact decide_eq_true c
    first
      | (refine wpAny_bind ?_; refine wp_if_pos (by simp [hf]) ?_)
      | (refine wp_if_pos (by simp [hf]) ?_; refine wpAny_bind ?_)
    rw [rz]
    have go : ∀ M, SetTable.sizeAbove (SetTable.grown (L.length + 1)) = M + 1 → MaskG M → M + 1 ≤ 512 → (L.length + 1) * 5 < M * 3 →
        wpAny (model P w) A (setRelay a (SetTable.grown (L.length + 1))) (fun _ s' => wpAny (model P w) A (pure true) Q E s') E { s with heap := h1 } := fun M e hM h512 h5 => by
      refine relayG (s := { s with heap := h1 }) ho1 ⟨hex.1, hex.2.1, hex.2.2⟩ rfl r1 T1 (by rw [len, m1]; omega) p1 ld1 (by rw [len]; exact few) (by rw [e]; rfl) hM (by rw [e]; exact h512) (by rw [len]; exact h5) ?_
      intro h2 L2 es2 ep2 t2 sb2 R2 pm2
      exact wpAny_pure (q h2 L2 es2 ep2 t2 (sb.trans sb2) R2 (pm2.trans pm))
    rcases R.tab.msk with (e | e | e) | e
    · have n4 : L.length = 4 := by rw [e] at rom c; omega
      exact go 31 (by rw [n4]; exact size_20) (.inl (.inr (.inl rfl))) (by decide) (by omega)
    · have n18 : L.length = 18 := by rw [e] at rom c; omega
      exact go 127 (by rw [n18]; exact size_76) (.inl (.inr (.inr rfl))) (by decide) (by omega)
    · have n76 : L.length = 76 := by rw [e] at rom c; omega
      exact go 511 (by rw [n76]; exact size_308) (.inr rfl) (by decide) (by omega)
    · rw [e] at c
      omega
  · have hf : t1.tooFull = false := by rw [full]; exact decide_eq_false c
    first
      | refine wp_if_neg (by simp [hf]) ?_
      | (refine wpAny_bind ?_; refine wp_if_neg (by simp [hf]) ?_; refine wpAny_pure ?_)
    exact wpAny_pure (q h1 L1 es1 (ep + 1) t1 sb ⟨⟨_, ho1, ⟨hex.1, hex.2.1, hex.2.2⟩, rfl⟩, r1, T1, p1, ld1, by rw [len, m1]; omega, by rw [len]; exact few⟩ pm)
end
end Mn
namespace Mn
open PySem PySem.Spec PyProof.Rows L2
section
variable {P : Program} {w : World} {A : Around} {E : Value → Shared → Prop} {s : Shared}
theorem newG {h : Heap} {a : Addr} (e : h.get? a = some (set00 w)) : SetG P w h a [] #[] 0 (.fresh 0 0 (!w.params.followText "set-order")) :=
  ⟨⟨_, e, ⟨rfl, rfl, rfl⟩, rfl⟩, rfl, ⟨List.Pairwise.nil, rfl, rfl, .inl (.inl rfl), fun x hx => (by cases hx)⟩, rfl, by
    show _ ∨ (!w.params.followText "set-order") = true
    cases w.params.followText "set-order"
    · exact .inr rfl
    · exact .inl rfl, (by show 0 * 5 < 7 * 3; decide), Nat.zero_le _⟩
abbrev Stays (h : Heap) (s : Shared) : Prop := ∀ b o, h.get? b = some o → s.heap.get? b = some o
theorem loopG {I : Addr} {fp wr : List Addr} {G : Array GenState → Array GenState → Prop} {n : Nat} {Pv : Nat → Value → Prop} {St : Nat → Shared → Prop} {R : Result → Shared → Prop} (W : WalksS P w A.in1 I fp wr G n Pv St) (B : Addr) (out : B ∉ fp) (ks : Tps) (hn : n = ks.length) (few : ks.length ≤ 300)
    (nd : (ks.map fun p => thash P w p.2).Nodup) (hv : ∀ i v, Pv i v → ∃ p, ks[i]? = some p ∧ v = .ref p.1) (h0 : Heap) (hk : ∀ p ∈ ks, IsT P w h0 p.2 p.1) (hB : h0.get? B = none) (hw : ∀ b ∈ wr, h0.get? b = none) (hu : A.in1.units < cLine) :
    ∀ (k i : Nat) (s : Shared), n - i = k → i ≤ n → St i s → Stays h0 s → (∃ L es ep t, SetG P w s.heap B L es ep t ∧ L.Perm (ks.take i)) →
      (∀ s' L es ep t, Moved (B :: wr) G s s' → SetG P w s'.heap B L es ep t → L.Perm ks → Stays h0 s' → R (.ok (.ret .none)) s') →
      codeAny (model P w) A (.builtin "set.update.loop" ⟨[.ref B, .ref I], []⟩) R s := by
  have nw : B ∉ wr := fun z => out (W.sub _ z)
  have up : ∀ b ∈ wr, b ∈ B :: wr := fun b z => List.mem_cons_of_mem _ z
  have go : ∀ {s s' : Shared}, Moved wr G s s' → Stays h0 s → Stays h0 s' := fun mv k b o e => mv.heap b o (fun z => by rw [hw b z] at e; cases e) (k b o e)
  intro k
  induction k with
  | zero =>
    intro i s ek hi st sty ⟨L, es, ep, t, R0, pm⟩ fin
    obtain rfl : i = n := by omega
    refine codeAny_builtin F.entry_set_update_loop ?_
    rw [Around.under_plainId F.plain_set_update_loop _]
    show wpAny _ A.in1 (pyNext (.ref I) >>= _) _ _ s
    refine wpAny_bind (W.done s _ _ st fun s' mv => ?_)
    show wpAny _ A.in1 (ret Value.none) _ _ s'
    rw [hn, List.take_length] at pm
    exact wpAny_pure (fin s' L es ep t (mv.mono up) (R0.move fun o e => mv.heap B o nw e) pm (go mv sty))
  | succ k ih =>
    intro i s ek hi st sty ⟨L, es, ep, t, R0, pm⟩ fin
    have lt : i < n := by omega
    refine codeAny_builtin F.entry_set_update_loop ?_
    rw [Around.under_plainId F.plain_set_update_loop _]
    show wpAny _ A.in1 (pyNext (.ref I) >>= _) _ _ s
    refine wpAny_bind (W.item i s _ _ lt st fun v s' pv st' mv => ?_)
    obtain ⟨p, hp, rfl⟩ := hv i v pv
    have sty' := go mv sty
    have R1 : SetG P w s'.heap B L es ep t := R0.move fun o e => mv.heap B o nw e
    have tp : IsT P w s'.heap p.2 p.1 := isT_keep (hk p (List.mem_of_getElem? hp)) sty'
    have tk : ks.take (i + 1) = ks.take i ++ [p] := take_next hp
    have un : ∀ q ∈ L, thash P w q.2 ≠ thash P w p.2 := fun q hq z => by
      obtain ⟨j, hj, ej⟩ := List.getElem_of_mem (pm.mem_iff.mp hq)
      rw [List.length_take] at hj
      rw [List.getElem_take] at ej
      obtain ⟨hi2, ep2⟩ := List.getElem?_eq_some_iff.mp hp
      have := List.pairwise_iff_getElem.mp nd j i (by rw [List.length_map]; omega) (by rw [List.length_map]; omega) (by omega)
      rw [List.getElem_map, List.getElem_map, ej, ep2] at this
      exact this z
    show wpAny _ A.in1 (holding [Value.ref p.1] (setAdd B (.ref p.1)) >>= _) _ _ s'
    refine wpAny_bind (wpAny_holding ?_)
    unfold setAdd
    refine wpAny_holding ?_
    refine wpAny_bind (wpAny_pyHash_tuple hu tp ?_)
    have ln : L.length + 1 ≤ 300 := by have := pm.length_eq; rw [List.length_take] at this; omega
    refine addG (s := { s' with toks := s'.toks + (p.2.length + 1) }) R1 tp ln un fun g L' es' ep' t' sb R2 pm2 => ?_
    have pm3 : L'.Perm (ks.take (i + 1)) := by
      rw [tk]
      exact pm2.trans ((pm.cons _).trans (List.perm_append_singleton p _).symm)
    have sty2 : ∀ b o, h0.get? b = some o → g.get? b = some o := fun b o e => (sb.2 b fun z => by rw [z, hB] at e; cases e).trans (sty' b o e)
    refine wpAny_pure ⟨plainId_quiet F.plain_set_update_loop _, ih (i + 1) _ (by omega) lt (W.frame _ s' _ _ st' (Nat.le_add_right _ _) fun b hb o e => ?_) sty2 ⟨L', es', ep', t', R2, pm3⟩ fun s2 L2 es2 ep2 t2 mv2 R3 pm4 sty3 => ?_⟩
    · rw [sb.2 b fun z : b = B => out (by rw [← z]; exact hb)]
      exact e
    · refine fin s2 L2 es2 ep2 t2 (Moved.trans W.gtrans ((mv.mono up).then_heap (Nat.le_add_right _ _) fun b o hb e => ?_) mv2) R3 pm4 sty3
      rw [sb.2 b fun z : b = B => hb (by rw [z]; exact List.mem_cons_self)]
      exact e
theorem set_of_tups {l : Addr} {its : Array Value} (ks : Tps) {Q : Value → Shared → Prop} (hd : A.handled = none) (il : s.heap.IsList l its) (ii : its.toList = ks.map fun p => Value.ref p.1) (hk : ∀ p ∈ ks, IsT P w s.heap p.2 p.1) (few : ks.length ≤ 300) (nd : (ks.map fun p => thash P w p.2).Nodup) (hu : A.units + 3 < cLine)
    (k : ∀ (g : Heap) (tk : Nat) L es ep t, SetG P w g s.heap.objs.size L es ep t → L.Perm ks → (∀ b o, s.heap.get? b = some o → g.get? b = some o) → Q (.ref s.heap.objs.size) { s with heap := g, toks := tk }) :
    wpAny (model P w) A (call (.type "set") [.ref l]) Q E s := by
  have sz : its.size = ks.length := by rw [← Array.length_toList, ii, List.length_map]
  obtain ⟨c0, tl0, hmro⟩ := F.called_set.mro
  have hmade := F.called_set.made
  have hsub := F.called_set.sub
  refine wpAny_call (codeAny_of_tree ?_)
  show wpAny _ _ (callAny (.type "set") _) _ _ _
  refine wpAny_pure ⟨Code.quiet_builtin _ (by decide +kernel), codeAny_builtin F.entry_type_call ?_⟩
  rw [Around.under_plain (weight_type_call_type "set" [.ref l] []) rfl]
  have w1 := F.called_set.notType
  have w2 := F.called_set.canCreate
  have w3 := F.typeCall_set_1 (.ref l)
  repeat (any_goals (first | assumption | wp_step))
  refine codeAny_mono (code_set_led1 (.ref l) (E := E) (Q₁ := fun x t => x = .ref s.heap.objs.size ∧ t = { s with heap := s.heap.push (set00 w) }) ⟨rfl, rfl⟩) fun r s1 hr => ?_
  cases r with
  | error e => exact hr
  | ok f1 =>
    cases f1 with
    | ret x =>
      obtain ⟨rfl, rfl⟩ := hr
      have at0 : (s.heap.push (set00 w)).get? s.heap.objs.size = some (set00 w) := Heap.get?_push_size _ rfl
      have ty0 : Shared.TypeIs { s with heap := s.heap.push (set00 w) } (.ref s.heap.objs.size) "set" := ⟨_, at0, rfl⟩
      have w4 := F.called_set.init.lookup
      have w5 := F.called_set.init.bind (.ref s.heap.objs.size)
      repeat (any_goals (first | assumption | wp_step))
      refine codeAny_mono (codeAny_call_builtin (R := wants (fun r u => r = .none ∧ ∃ g tk L es ep t, u = { s with heap := g, toks := tk } ∧ (SetG P w g s.heap.objs.size L es ep t ∧ L.Perm ks) ∧
          ∀ b o, s.heap.get? b = some o → g.get? b = some o) E) F.called_set.init.plain F.entry_set_init (check_set_init_1 ty0 ?_)) fun r2 s2 hr2 => ?_
      · obtain ⟨ol, hol, hcl, nl, hdl⟩ := il
        obtain ⟨oc, od, oda, osl⟩ := ol
        simp only at hcl hdl
        subst hcl hdl
        have lt0 : l < s.heap.objs.size := Heap.lt_size hol
        have hol1 : (s.heap.push (set00 w)).get? l = some { cls := .type "list", dict := od, data := .seq its nl, slots := osl } := Heap.get?_push_of_some _ hol
        have w6 := F.sub_list_set
        have w7 := F.sub_list_frozenset
        have w8 : (Value.type "list" == Value.type "dict") = false := by decide
        have il1 : (s.heap.push (set00 w)).IsList l its := ⟨_, hol1, rfl, nl, rfl⟩
        unfold Builtin.«set.__init__» noKeywords Builtin.Frozenset.updateFrom
        generalize hPI : pyIter = PI
        wp_walk
        subst hPI
        refine wpAny_pyIter_list il1 ?_
        refine wpAny_bind (wpAny_runValue ?_)
        have hd3 : A.in1.in1.in1.handled = none := by simp [hd]
        have z1 : (s.heap.push (set00 w)).objs.size = s.heap.objs.size + 1 := Heap.size_push ..
        have n1 : l ≠ (s.heap.push (set00 w)).objs.size := by rw [z1]; exact Nat.ne_of_lt (Nat.lt_succ_of_lt lt0)
        have n2 : s.heap.objs.size ∉ [(s.heap.push (set00 w)).objs.size, l] := by
          rw [z1]
          intro z
          rcases List.mem_cons.mp z with z | z
          · exact absurd z (Nat.ne_of_lt (Nat.lt_succ_self _))
          · exact absurd (List.mem_singleton.mp z) (Nat.ne_of_gt lt0)
        have vals : ∀ (i : Nat) (v : Value), its[i]? = some v → ∃ p, ks[i]? = some p ∧ v = .ref p.1 := fun i v hv => by
          have q : (ks.map fun p => Value.ref p.1)[i]? = some v := by rw [← ii, Array.getElem?_toList]; exact hv
          rw [List.getElem?_map] at q
          obtain ⟨p, e1, e2⟩ := Option.map_eq_some_iff.mp q
          exact ⟨p, e1, e2.symm⟩
        have no : ∀ b, s.heap.objs.size ≤ b → s.heap.get? b = none := fun b hb => by
          cases e : s.heap.get? b with
          | none => rfl
          | some o => exact absurd (Heap.lt_size e) (Nat.not_lt.mpr hb)
        refine loopG ((Walks.list hd3 _ l n1 its).toS) s.heap.objs.size n2 ks sz few nd vals s.heap hk (no _ (Nat.le_refl _)) (fun b hb => no b (by rw [List.mem_singleton.mp hb, z1]; exact Nat.le_succ _)) hu (its.size - 0) 0 _ (Nat.sub_zero _) (Nat.zero_le _) ⟨⟨_, Heap.get?_push_size _ rfl, rfl, rfl⟩, il1.push _⟩
          (fun b o e => Heap.get?_push_of_some _ (Heap.get?_push_of_some _ e)) ⟨[], #[], 0, _, newG (Heap.get?_push_of_some _ at0), List.Perm.refl _⟩ ?qb
        case qb =>
          intro s' L es ep t mv R1 pm sty
          obtain ⟨g, gn, dr, tk, os⟩ := s'
          have e1 : gn = s.gens := mv.gens
          have e2 : dr = s.drawn := mv.drawn
          have e3 : os = s.os := mv.os
          subst e1 e2 e3
          show wpAny _ _ _ _ _ _
          refine wpAny_pure ?_
          show wpAny _ _ (ret Value.none) _ _ _
          exact wpAny_pure ⟨rfl, g, tk, L, es, ep, t, rfl, ⟨R1, pm⟩, sty⟩
      · cases r2 with
        | error e => exact hr2
        | ok f2 =>
          cases f2 with
          | ret r =>
            obtain ⟨rfl, g, tk, L, es, ep, t, rfl, ⟨R1, pm⟩, sty⟩ := hr2
            repeat (any_goals (first | assumption | wp_step))
            exact k _ _ _ _ _ _ R1 pm sty
          | _ => exact hr2.elim
    | _ => exact hr.elim
end
end Mn
namespace Mn
open PySem PySem.Spec PyProof.Rows L2
theorem each_reads {h : Heap} : ∀ {us : List Value} {ds : List D}, PySem.W.EachIs (fun u d => ∃ as, Reads h u (D.py d) as) us ds → ∃ as, ReadsAll h us (pys ds) as
  | _, _, .nil => ⟨[], .nil⟩
  | _, _, .cons ⟨as, r⟩ q => by
    obtain ⟨bs, q'⟩ := each_reads q
    exact ⟨as ++ bs, .cons r q'⟩
mutual
theorem py_plain : ∀ d : D, d.py.plain = true
  | .non => rfl
  | .bl _ => rfl
  | .int _ => rfl
  | .str _ => rfl
  | .tup l => by show PyData.plainAll (pys l) = true; exact pys_plain l
  | .fl _ => rfl
  | .ref _ => rfl
theorem pys_plain : ∀ l : List D, PyData.plainAll (pys l) = true
  | [] => rfl
  | d :: r => by
    show (d.py.plain && PyData.plainAll (pys r)) = true
    rw [py_plain d, pys_plain r]
    rfl
end
theorem DatOk.one {d : D} (h : DatOk [d]) : d.pur = true ∧ d.py.depth ≤ 100 := by
  obtain ⟨h1, h2⟩ := h
  obtain ⟨h3, _⟩ := Bool.and_eq_true_iff.mp (show (d.pur && purs []) = true from h1)
  refine ⟨h3, ?_⟩
  have h4 : max d.py.depth 0 ≤ 100 := h2
  omega
section
variable {X : Cx} {cl : Cl} {K : Fg} {m : List Addr} {H : Hp} {S : Store}
theorem bm_remd (hu : X.A.units + 650 < cLine) : MtR X "list.remove" (rBm X.K cl .remd) := by
  intro pins s σ H x vs v us Q I rx rv ⟨m, S, d, ds, R, r1, rd, h⟩
  replace h : mRemd d ds S (up X.K cl m H Q) := h
  unfold mRemd at h
  split at h
  · rename_i n e
    obtain ⟨y, rfl, r2⟩ := rd.one
    obtain ⟨u, rfl, ru⟩ := vals1 rv
    split at h
    · rename_i l g
      cases r1 with
      | ref hm =>
        obtain ⟨ws, h1, q⟩ := R.at_ _ _ _ hm g
        cases rx
        split at h
        · rename_i j ej
          obtain ⟨dl, dx, k⟩ := h
          obtain ⟨px, hx⟩ := dx.one
          obtain ⟨z, its, n2, rr, hl, e0⟩ := I.lstM h1
          obtain ⟨_, e2⟩ := each_of I R q rr dl.1
          obtain ⟨as, ra⟩ := each_reads e2
          obtain ⟨bs, rb⟩ := Dp.reads I e.py y u ((snap_py S px).dp R r2) ru
          refine PySem.SeqAt.remove_list_data ⟨_, e0, rfl, n2, rfl⟩ (by simpa using ra) rb (pys_plain l) (py_plain e) (by omega) ej (by rw [List.size_toArray]; omega) ?_
          refine ⟨.non, _, I.lset (its' := its.eraseIdx j) (t' := s.toks) h1 e0 ?_ (rr.eraseIdx j) ?_, rfl, ?_⟩
          · show its.toArray.eraseIdxIfInBounds j = (its.eraseIdx j).toArray
            rw [List.eraseIdxIfInBounds_toArray]
          · have := List.length_eraseIdx_le ws j
            omega
          · exact k _ _ _ (le_set h1 trivial) (R.set hm h1 trivial ⟨_, upd_same, (q.eraseIdx j).mono (le_set h1 trivial)⟩) .non
        · exact h.elim
    · exact h.elim
  · exact h.elim
def rInD (K : Fg) (cl : Cl) (neg : Bool) : R2 := fun x y H Q => ∃ m S dx dy, RS K cl m H S ∧ RD K m H dx x ∧ RD K m H dy y ∧ inD dx dy S fun b => Q (.bl (if neg then !b else b)) H
theorem op_inD (neg : Bool) (hu : X.A.units + 650 < cLine) : OpR X (compareOp (if neg then .NotIn else .In)) (rInD X.K cl neg) := by
  intro pins s σ H x y v u Q I rx ry ⟨m, S, dx, dy, R, r1, r2, h⟩
  unfold inD at h
  split at h
  · rename_i l e
    split at h
    · obtain ⟨ps, hps, hpl, k⟩ := h
      cases r1
      cases rx
      obtain ⟨a, vs, rfl, hs, q⟩ := r2.seq R e
      cases ry
      have rb : ∃ bs, Reads s.heap .none .none bs := Dp.reads I .none _ _ (Dp.non (K := X.K) (H := H)) rfl
      obtain ⟨bs, rb⟩ := rb
      have key : Dp X.K H (.ref a) (.list ps) ∨ Dp X.K H (.ref a) (.tuple ps) := by
        rcases hs with hs | hs
        · exact .inl (.lst hs (Snaps.dp R hps q))
        · exact .inr (.tup hs (Snaps.dp R hps q))
      have hu2 : X.A.units + 1 + min (PyData.depthAll ps) (PyData.depth .none) < cLine := by
        have : min (PyData.depthAll ps) (PyData.depth .none) ≤ 1 := Nat.le_trans (Nat.min_le_right _ _) (by decide)
        omega
      rcases key with key | key
      · obtain ⟨as, ra⟩ := Dp.reads I _ _ _ key (show RelV (.ref a) (.ref a) from rfl)
        cases neg with
        | false => exact PySem.SeqAt.in_list_data ra rb hpl rfl hu2 ⟨.bl _, H, I, rfl, k⟩
        | true => exact PySem.SeqAt.notIn_list_data ra rb hpl rfl hu2 ⟨.bl _, H, I, rfl, k⟩
      · obtain ⟨as, ra⟩ := Dp.reads I _ _ _ key (show RelV (.ref a) (.ref a) from rfl)
        cases neg with
        | false => exact PySem.SeqAt.in_tuple_data ra rb hpl rfl hu2 ⟨.bl _, H, I, rfl, k⟩
        | true => exact PySem.SeqAt.notIn_tuple_data ra rb hpl rfl hu2 ⟨.bl _, H, I, rfl, k⟩
    · obtain ⟨dl, dx', k⟩ := h
      obtain ⟨px, hx⟩ := dx'.one
      obtain ⟨bs, rb⟩ := Dp.reads I dx.py x v ((snap_py S px).dp R r1) rx
      obtain ⟨a, vs, rfl, hs, q⟩ := r2.seq R e
      cases ry
      have key : Dp X.K H (.ref a) (.list (pys l)) ∨ Dp X.K H (.ref a) (.tuple (pys l)) := by
        rcases hs with hs | hs
        · exact .inl (.lst hs (Snaps.dp R (snaps_py S dl.1) q))
        · exact .inr (.tup hs (Snaps.dp R (snaps_py S dl.1) q))
      have hd := dl.2
      rcases key with key | key
      · obtain ⟨as, ra⟩ := Dp.reads I _ _ _ key (show RelV (.ref a) (.ref a) from rfl)
        cases neg with
        | false => exact PySem.SeqAt.in_list_data ra rb (pys_plain l) (py_plain dx) (by omega) ⟨.bl _, H, I, rfl, k⟩
        | true => exact PySem.SeqAt.notIn_list_data ra rb (pys_plain l) (py_plain dx) (by omega) ⟨.bl _, H, I, rfl, k⟩
      · obtain ⟨as, ra⟩ := Dp.reads I _ _ _ key (show RelV (.ref a) (.ref a) from rfl)
        cases neg with
        | false => exact PySem.SeqAt.in_tuple_data ra rb (pys_plain l) (py_plain dx) (by omega) ⟨.bl _, H, I, rfl, k⟩
        | true => exact PySem.SeqAt.notIn_tuple_data ra rb (pys_plain l) (py_plain dx) (by omega) ⟨.bl _, H, I, rfl, k⟩
  · exact h.elim
theorem dedup_mem (σ : List Int) (k j : Int) : j ∈ step_dedup σ k ↔ j ∈ σ ∨ j = k := by
  unfold step_dedup
  split
  · rename_i h
    obtain ⟨x, hx, e⟩ := List.any_eq_true.mp h
    have e2 : x = k := eq_of_beq e
    subst e2
    exact ⟨.inl, fun q => q.elim id fun z => z ▸ hx⟩
  · simp
theorem dedup_nd {σ : List Int} {k : Int} (h : σ.Nodup) : (step_dedup σ k).Nodup := by
  unfold step_dedup
  split
  · exact h
  · rename_i e
    refine List.nodup_append.mpr ⟨h, by simp, fun a ha b hb z => ?_⟩
    rw [List.mem_singleton] at hb
    subst hb
    subst z
    exact e (List.any_eq_true.mpr ⟨a, ha, beq_self_eq_true a⟩)
theorem first_ok (val : Nat → Int) : ∀ i, (firstMet val i).Nodup ∧ ∀ j, j ∈ firstMet val i ↔ ∃ k, k < i ∧ val k = j
  | 0 => ⟨by rw [firstMet_zero]; exact List.nodup_nil, fun j => by rw [firstMet_zero]; simp⟩
  | i + 1 => by
    obtain ⟨h1, h2⟩ := first_ok val i
    rw [firstMet_succ]
    refine ⟨dedup_nd h1, fun j => ?_⟩
    rw [dedup_mem, h2]
    constructor
    · rintro (⟨k, a, b⟩ | e)
      · exact ⟨k, by omega, b⟩
      · exact ⟨i, by omega, e.symm⟩
    · rintro ⟨k, a, b⟩
      rcases Nat.lt_or_ge k i with c | c
      · exact .inl ⟨k, c, b⟩
      · have : k = i := by omega
        subst this
        exact .inr b.symm
theorem first_list (ns : List Int) : (firstMet (fun i => ns.getD i 0) ns.length).Nodup ∧ ∀ j, j ∈ firstMet (fun i => ns.getD i 0) ns.length ↔ j ∈ ns := by
  obtain ⟨h1, h2⟩ := first_ok (fun i => ns.getD i 0) ns.length
  refine ⟨h1, fun j => ?_⟩
  rw [h2]
  constructor
  · rintro ⟨k, a, b⟩
    have : ns.getD k 0 = ns[k] := by rw [List.getD_eq_getElem?_getD, List.getElem?_eq_getElem a]; rfl
    rw [← b, this]
    exact List.getElem_mem a
  · intro hj
    obtain ⟨k, a, b⟩ := List.getElem_of_mem hj
    exact ⟨k, a, by rw [List.getD_eq_getElem?_getD, List.getElem?_eq_getElem a]; exact b⟩
theorem itups_ks : ∀ {l : List D} {vs : List V} {ts : List (List Int)}, RDs K m H l vs → itups? l = some ts → ∃ ks : List (Addr × List Int), vs = ks.map (fun p => V.ref p.1) ∧ ks.map (·.2) = ts ∧ ∀ p ∈ ks, SqT K H p.1 (p.2.map V.int)
  | [], _, ts, .nil, h => by
    cases h
    exact ⟨[], rfl, rfl, fun p hp => nomatch hp⟩
  | d :: r, _, ts, .cons (v := v) (vs := vs) q qs, h => by
    cases q with
    | tup hs q2 =>
      rename_i a ws ds
      have h2 : (match ints? ds, itups? r with | some n, some m => some (n :: m) | _, _ => none) = some ts := h
      cases e1 : ints? ds with
      | none => rw [e1] at h2; cases h2
      | some n =>
        rw [e1] at h2
        cases e2 : itups? r with
        | none => rw [e2] at h2; cases h2
        | some m' =>
          rw [e2] at h2
          cases h2
          obtain ⟨ks, h3, h4, h5⟩ := itups_ks qs e2
          refine ⟨(a, n) :: ks, by rw [h3]; rfl, by rw [← h4]; rfl, fun p hp => ?_⟩
          rcases List.mem_cons.mp hp with z | z
          · rw [z, ← q2.ints e1]
            exact hs
          · exact h5 p z
    | _ => cases h
theorem call_lset (hc : X.calm = true) (hu : X.A.units + 64 < cLine) {pins : List (Addr × Obj)} {σ : L2.St} {s : Shared} {d : D} {x : V} {u : Value} {Q : VK} (I : Inv X pins σ H s) (R : RS X.K cl m H S) (r : RD X.K m H d x) (rx : RelV x u) (h : bLset [d] S (up X.K cl m H Q)) :
    wpAny (model X.prog X.w) X.A (call (.type "set") [u]) (fun w s1 => wpAny (model X.prog X.w) X.A (call (.builtin "len") [w]) (EP X pins σ Q) X.xe s1) X.xe s := by
  unfold bLset at h
  dsimp only at h
  split at h
  · rename_i ns e
    cases e1 : lq? S d with
    | none => rw [e1] at e; cases e
    | some l =>
      rw [e1] at e
      obtain ⟨a, vs, rfl, hs, q⟩ := r.lq R e1
      have e2 := q.ints e
      subst e2
      cases rx
      obtain ⟨its, rv, pl, hz⟩ := I.list hs
      have hl : its.toArray.size = ns.length := by rw [List.size_toArray, ← rv.length, List.length_map]
      obtain ⟨h1, h2⟩ := h
      refine call_set_list (I.ok.hd hc) pl.isList (ns := ns) (by simpa using rv.ints) (by unfold scanBound; omega) fun h' tk hS hk => ?_
      rw [hl] at hS
      obtain ⟨f1, f2⟩ := first_list ns
      have f3 : (firstMet (fun i => ns.getD i 0) ns.length).length ≤ ns.length := firstMet_length_le _ _
      obtain ⟨o, es, ep, t, ho, hex, hd, _, _, _, hf, hn⟩ := hS
      have I2 : Inv X pins σ H { s with heap := h', toks := tk } := I.kept fun b o e => hk b o (Heap.lt_size e) e
      refine call_len_set ho hex hd hf (by rw [hn]; omega) ⟨.int (firstMet (fun i => ns.getD i 0) ns.length).length, H, I2.tok _, ⟨_, by rw [hn]⟩, ?_⟩
      exact up_here (h2 _ f1 f2) R (.int _)
  · split at h
    · rename_i ts e
      cases e1 : lq? S d with
      | none => rw [e1] at e; cases e
      | some l =>
        rw [e1] at e
        obtain ⟨a, vs, rfl, hs, q⟩ := r.lq R e1
        obtain ⟨ks, rfl, hks, hT⟩ := itups_ks q e
        cases rx
        obtain ⟨its, rv, pl, hz⟩ := I.list hs
        obtain ⟨h1, h2⟩ := h
        have hkl : ks.length = ts.length := by rw [← hks, List.length_map]
        rcases h1 with h1 | ⟨h1, h3⟩
        · refine call_set_tups (P := X.prog) (w := X.w) ks (I.ok.hd hc) pl.isList (by simpa using refs_of_vals rv) (fun p hp => I.isT (hT p hp)) (by omega) (by omega) fun h' tk L es ep t RT g hk => ?_
          obtain ⟨o, ho, hex, hd⟩ := RT.ob
          have I2 : Inv X pins σ H { s with heap := h', toks := tk } := I.kept fun b o e => hk b o e
          have hsz : es.size = L.length := by
            have := congrArg List.length RT.rows
            rw [Array.length_toList] at this
            rw [this]
            unfold rowsOf
            rw [List.length_map]
          have hfew := RT.few
          refine call_len_set ho hex hd (SetTR.fits (s := { s with heap := h', toks := tk }) RT) (by rw [hsz]; omega) ⟨.int (L.map (·.2)).length, H, I2.tok _, ⟨_, by rw [hsz, List.length_map]⟩, ?_⟩
          refine up_here (h2 _ RT.nd fun k => ?_) R (.int _)
          rw [← hks]
          constructor
          · intro hm
            obtain ⟨p, hp, rfl⟩ := List.mem_map.mp hm
            exact List.mem_map.mpr ⟨p, List.mem_of_mem_take (g.sub p hp), rfl⟩
          · intro hm
            obtain ⟨p, hp, rfl⟩ := List.mem_map.mp hm
            exact g.all p (by rw [List.take_length]; exact hp)
        · have nd : (ks.map fun p => thash X.prog X.w p.2).Nodup := by
            rw [← hks, List.map_map] at h3
            exact h3
          refine set_of_tups (P := X.prog) (w := X.w) ks (I.ok.hd hc) pl.isList (by simpa using refs_of_vals rv) (fun p hp => I.isT (hT p hp)) (by omega) nd (by omega) fun g tk L es ep t RG pm hk => ?_
          obtain ⟨o, ho, hex, hd⟩ := RG.at_
          have I2 : Inv X pins σ H { s with heap := g, toks := tk } := I.kept fun b o e => hk b o e
          have hsz := rows_size RG.row
          have hfew := RG.few
          refine call_len_set ho hex hd (SetG.fit (s := { s with heap := g, toks := tk }) RG) (by rw [hsz]; omega) ⟨.int (L.map (·.2)).length, H, I2.tok _, ⟨_, by rw [hsz, List.length_map]⟩, ?_⟩
          refine up_here (h2 _ ?_ fun k => ?_) R (.int _)
          · have n2 : (L.map fun p => thash X.prog X.w p.2).Nodup := (pm.map _).nodup_iff.mpr nd
            exact nodup_of_map (f := hashT) (by rw [List.map_map]; exact n2)
          · rw [← hks]
            exact (pm.map (·.2)).mem_iff
    · exact h.elim
theorem KR.pPut {κ : Type} [DecidableEq κ] {k : κ} {d : D} {v : V} {l : List (κ × D)} {kvs : List (κ × V)} (q : KR K m H l kvs) (r : RD K m H d v) :
    KR K m H (if (l.any fun kv => decide (kv.1 = k)) = true then l.map (fun kv => if kv.1 = k then (kv.1, d) else kv) else l ++ [(k, d)]) (putK kvs k v) := by
  unfold putK
  rw [q.any k]
  split
  · exact q.upd r
  · exact q.append (.cons r .nil)
theorem dtp_some {d : D} {n : Nat} {l : List (List Key × D)} (e : dtp? S d = some (n, l)) : d = .ref n ∧ S[n]? = some (.dtp l) := by
  unfold dtp? at e
  split at e
  · split at e
    · rename_i n' _ l' g
      cases e
      exact ⟨rfl, g⟩
    · cases e
  · cases e
theorem keys2_some {a b : D} {k : List Key} {v w : V} (ra : RD K m H a v) (rb : RD K m H b w) (e : keys2 a b = some k) : [v, w] = k.map kV := by
  unfold keys2 at e
  split at e
  · rename_i k1 k2 e1 e2
    cases e
    rw [ra.key e1, rb.key e2]
    rfl
  · cases e
end
end Mn
namespace Mn
open PySem PySem.Spec PyProof.Rows L2
section
variable {P : Program} {w : World} {A : Around} {E : Value → Shared → Prop} {s : Shared}
theorem set_of_ints {l : Addr} {its : Array Value} (ns : List Int) {Q : Value → Shared → Prop} (hd : A.handled = none) (il : s.heap.IsList l its) (ii : IntsAre its.toList ns) (few : ns.length + 1 < scanBound)
    (k : ∀ (g : Heap) (t c : Nat), SetR w g s.heap.objs.size (fun j => decide (j ∈ ns)) c → c ≤ ns.length → (∀ b o, s.heap.get? b = some o → g.get? b = some o) → Q (.ref s.heap.objs.size) { s with heap := g, toks := t }) :
    wpAny (model P w) A (call (.type "set") [.ref l]) Q E s := by
  have sz : its.size = ns.length := by rw [← Array.length_toList]; exact IntsAre.length ii
  obtain ⟨c0, tl0, hmro⟩ := F.called_set.mro
  have hmade := F.called_set.made
  have hsub := F.called_set.sub
  refine wpAny_call (codeAny_of_tree ?_)
  show wpAny _ _ (callAny (.type "set") _) _ _ _
  refine wpAny_pure ⟨Code.quiet_builtin _ (by decide +kernel), codeAny_builtin F.entry_type_call ?_⟩
  rw [Around.under_plain (weight_type_call_type "set" [.ref l] []) rfl]
  have w1 := F.called_set.notType
  have w2 := F.called_set.canCreate
  have w3 := F.typeCall_set_1 (.ref l)
  repeat (any_goals (first | assumption | wp_step))
  refine codeAny_mono (code_set_led1 (.ref l) (E := E) (Q₁ := fun x t => x = .ref s.heap.objs.size ∧ t = { s with heap := s.heap.push (set00 w) }) ⟨rfl, rfl⟩) fun r s1 hr => ?_
  cases r with
  | error e => exact hr
  | ok f1 =>
    cases f1 with
    | ret x =>
      obtain ⟨rfl, rfl⟩ := hr
      have at0 : (s.heap.push (set00 w)).get? s.heap.objs.size = some (set00 w) := Heap.get?_push_size _ rfl
      have ty0 : Shared.TypeIs { s with heap := s.heap.push (set00 w) } (.ref s.heap.objs.size) "set" := ⟨_, at0, rfl⟩
      have w4 := F.called_set.init.lookup
      have w5 := F.called_set.init.bind (.ref s.heap.objs.size)
      repeat (any_goals (first | assumption | wp_step))
      refine codeAny_mono (codeAny_call_builtin (R := wants (fun r t => r = .none ∧ ∃ g tk c, t = { s with heap := g, toks := tk } ∧ (SetR w g s.heap.objs.size (fun j => decide (j ∈ ns)) c ∧ c ≤ ns.length) ∧
          ∀ b o, s.heap.get? b = some o → g.get? b = some o) E) F.called_set.init.plain F.entry_set_init (check_set_init_1 ty0 ?_)) fun r2 s2 hr2 => ?_
      · obtain ⟨ol, hol, hcl, nl, hdl⟩ := il
        obtain ⟨oc, od, oda, osl⟩ := ol
        simp only at hcl hdl
        subst hcl hdl
        have lt0 : l < s.heap.objs.size := Heap.lt_size hol
        have hol1 : (s.heap.push (set00 w)).get? l = some { cls := .type "list", dict := od, data := .seq its nl, slots := osl } := Heap.get?_push_of_some _ hol
        have w6 := F.sub_list_set
        have w7 := F.sub_list_frozenset
        have w8 : (Value.type "list" == Value.type "dict") = false := by decide
        have il1 : (s.heap.push (set00 w)).IsList l its := ⟨_, hol1, rfl, nl, rfl⟩
        unfold Builtin.«set.__init__» noKeywords Builtin.Frozenset.updateFrom
        generalize hPI : pyIter = PI
        wp_walk
        subst hPI
        refine wpAny_pyIter_list il1 ?_
        refine wpAny_bind (wpAny_runValue ?_)
        have hd3 : A.in1.in1.in1.handled = none := by simp [hd]
        have z1 : (s.heap.push (set00 w)).objs.size = s.heap.objs.size + 1 := Heap.size_push ..
        have n1 : l ≠ (s.heap.push (set00 w)).objs.size := by rw [z1]; exact Nat.ne_of_lt (Nat.lt_succ_of_lt lt0)
        have n2 : s.heap.objs.size ∉ [(s.heap.push (set00 w)).objs.size, l] := by
          rw [z1]
          intro z
          rcases List.mem_cons.mp z with z | z
          · exact absurd z (Nat.ne_of_lt (Nat.lt_succ_self _))
          · exact absurd (List.mem_singleton.mp z) (Nat.ne_of_gt lt0)
        have vals : ∀ (i : Nat) (v : Value), its[i]? = some v → ∃ k t, ns[i]? = some k ∧ v = .int k t := fun i v hv => by
          have hi : i < ns.length := by rw [← sz]; exact (Array.getElem?_eq_some_iff.mp hv).1
          obtain ⟨t, e⟩ := PyProof.Rows.IntsAre.int_at ii i v (by rw [Array.getElem?_toList]; exact hv)
          exact ⟨ns[i], t, List.getElem?_eq_getElem hi, by rw [e, List.getD_eq_getElem?_getD, List.getElem?_eq_getElem hi]; rfl⟩
        refine set_update_ints ((Walks.list hd3 _ l n1 its).toS) s.heap.objs.size n2 ns sz few vals (its.size - 0) 0 _ (Nat.sub_zero _) (Nat.zero_le _) ⟨⟨_, Heap.get?_push_size _ rfl, rfl, rfl⟩, il1.push _⟩ ?qa ?qb
        case qa => exact ⟨0, Nat.le_refl 0, setR_new_at (Heap.get?_push_of_some _ at0)⟩
        case qb =>
          intro s' c' mv hc' hS'
          obtain ⟨g, gn, dr, tk, os⟩ := s'
          have e1 : gn = s.gens := mv.gens
          have e2 : dr = s.drawn := mv.drawn
          have e3 : os = s.os := mv.os
          subst e1 e2 e3
          show wpAny _ _ _ _ _ _
          refine wpAny_pure ?_
          show wpAny _ _ (ret Value.none) _ _ _
          refine wpAny_pure ⟨rfl, g, tk, c', rfl, ⟨hS', by omega⟩, fun b o e => ?_⟩
          have b0 := Heap.lt_size e
          refine mv.heap b o (fun z => ?_) (Heap.get?_push_of_some _ (Heap.get?_push_of_some _ e))
          rw [z1] at z
          rcases List.mem_cons.mp z with z | z
          · exact absurd z (Nat.ne_of_lt b0)
          · exact absurd (List.mem_singleton.mp z) (Nat.ne_of_lt (Nat.lt_succ_of_lt b0))
      · cases r2 with
        | error e => exact hr2
        | ok f2 =>
          cases f2 with
          | ret r =>
            obtain ⟨rfl, g, tk, c, rfl, ⟨hS', hc'⟩, hk'⟩ := hr2
            repeat (any_goals (first | assumption | wp_step))
            exact k _ _ _ hS' hc' hk'
          | _ => exact hr2.elim
    | _ => exact hr.elim
end
section
variable {X : Cx} {cl : Cl} {m : List Addr} {H : Hp} {S : Store}
theorem perm_back {α β : Type} (f : α → β) {l m : List β} (h : l.Perm m) : ∀ L : List α, m = L.map f → ∃ L' : List α, L'.Perm L ∧ l = L'.map f := by
  induction h with
  | nil =>
    intro L e
    exact ⟨L, List.Perm.refl _, e⟩
  | cons x h ih =>
    intro L e
    cases L with
    | nil => cases e
    | cons p L =>
      injection e with e1 e2
      obtain ⟨L', pm, e3⟩ := ih L e2
      exact ⟨p :: L', pm.cons p, by rw [e1, e3]; rfl⟩
  | swap x y l =>
    intro L e
    cases L with
    | nil => cases e
    | cons p L =>
      cases L with
      | nil => cases e
      | cons q L =>
        injection e with e1 e2
        injection e2 with e2 e3
        exact ⟨q :: p :: L, List.Perm.swap p q L, by rw [e1, e2, e3]; rfl⟩
  | trans h1 h2 ih1 ih2 =>
    intro L e
    obtain ⟨L1, p1, e1⟩ := ih2 L e
    obtain ⟨L2, p2, e2⟩ := ih1 L1 e1
    exact ⟨L2, p2.trans p1, e2⟩
theorem rds_tups {K : Fg} {m : List Addr} {H : Hp} : ∀ {L : List (Addr × List Int)}, (∀ p ∈ L, SqT K H p.1 (p.2.map V.int)) → RDs K m H (L.map fun p => tupI p.2) (L.map fun p => V.ref p.1)
  | [], _ => .nil
  | p :: L, h => by
    refine .cons (.tup (h p List.mem_cons_self) ?_) (rds_tups fun q hq => h q (List.mem_cons_of_mem _ hq))
    generalize p.2 = ks
    induction ks with
    | nil => exact .nil
    | cons i ks ih => exact .cons (.int i) ih
theorem sort_rows (hc : X.calm = true) (hu : X.A.units + 650 < cLine) {pins : List (Addr × Obj)} {σ : L2.St} {s : Shared} {Q : VK} (I : Inv X pins σ H s) (R : RS X.K cl m H S) {a : Addr} {L : List (Addr × List Int)} {es : Array (Int × Value)} {ep : Nat} {t : SetTable}
    (sa : SetAt s.heap a es ep t) (hf : t.fits es.size = true) (ri : Ris t.place.toList) (ld : X.w.params.followText "set-order" = true ∨ t.led = true) (row : es.toList = rowsOf X.prog X.w L) (few : L.length ≤ 300) (hT : ∀ p ∈ L, SqT X.K H p.1 (p.2.map V.int))
    (h : ∀ L' : List (Addr × List Int), L'.Perm L → OrdOk (L'.map fun p => tupI p.2) ∧ up X.K cl m H Q (.ref S.length) (S ++ [.lst (sortD (L'.map fun p => tupI p.2))])) :
    wpAny (model X.prog X.w) X.A (call (.builtin "sorted") [.ref a]) (EP X pins σ Q) X.xe s := by
  have rz := rows_size row
  refine PySem.Calls.call_function_entry kind_sorted plain_sorted entry_sorted (args_sorted1 _) ?_
  unfold Builtin.«sorted»
  refine wpAny_bind (m := checkCount "sorted" 1 1 _) (wpAny_pure ?_)
  refine wpAny_bind (collect_set (A := X.A.in1) (I.ok.hd hc) sa hf (by unfold scanBound; omega) ri ld fun s1 out k1 z1 g1 o1 pm => ?_)
  have ev : es.toList.map (·.2) = L.map fun p => Value.ref p.1 := by
    rw [row]
    unfold rowsOf
    rw [List.map_map]
    rfl
  obtain ⟨L', pl, rfl⟩ := perm_back (fun p : Addr × List Int => Value.ref p.1) pm L ev
  obtain ⟨⟨hp, ha, hs, hd⟩, q⟩ := h L' pl
  have hT' : ∀ p ∈ L', SqT X.K H p.1 (p.2.map V.int) := fun p hp => hT p (pl.mem_iff.mp hp)
  have ln := pl.length_eq
  have hv : Vals (L'.map fun p => V.ref p.1) (L'.map fun p => Value.ref p.1) := vals_of_refs L'
  obtain ⟨e1, e2⟩ := each_of I R (rds_tups (m := m) hT') hv hp
  have e3 : ∀ {us : List Value} {ds : List D}, PySem.W.EachIs (fun u d => ∃ as, Reads s.heap u (D.py d) as) us ds → PySem.W.EachIs (fun u d => ∃ as, Reads (s1.heap.push (seqObj "list" (L'.map fun p => Value.ref p.1).toArray 0)) u (D.py d) as ∧ s1.heap.objs.size ∉ as) us ds := by
    intro us ds q
    induction q with
    | nil => exact .nil
    | cons r _ ih =>
      obtain ⟨as, rr⟩ := r
      refine .cons ⟨as, PyProof.Rows.Reads.keeps (fun b o e => Heap.get?_push_of_some _ (k1 b o e)) rr, fun z => ?_⟩ ih
      obtain ⟨o, e⟩ := reads_has rr _ z
      exact absurd (Heap.lt_size (k1 _ _ e)) (Nat.lt_irrefl _)
  refine wpAny_bind (wpAny_newList ?_ (by rw [List.length_map, sizeLine_eq]; omega))
  have ho : (s1.heap.push { cls := .type "list", data := .seq (L'.map fun p => Value.ref p.1).toArray }).get? s1.heap.objs.size = some (seqObj "list" (L'.map fun p => Value.ref p.1).toArray 0) := Heap.get?_push_size _ rfl
  refine wpAny_bind (wpAny_holding (PySem.W.list_sort_data (R := fun u d => ∃ v, RelV v u ∧ RD X.K m H d v) (enc := D.py) (bs := L'.map fun p => tupI p.2) ho e1 (e3 e2) (by rw [← pys_map]; exact ha) (by rw [← pys_map]; exact hs) (by rw [List.length_map, sizeLine_eq]; omega) (fun b hb => ?_) fun out hlo eo => ?_))
  · have := hd b.py (by rw [pys_map]; exact List.mem_map_of_mem hb)
    show X.A.in1.units + 1 + b.py.depth < cLine
    have e : X.A.in1.units ≤ X.A.units + 1 := Nat.le_refl _
    omega
  · obtain ⟨ws, w1, w2⟩ := each_back eo
    obtain ⟨e, he⟩ := PyProof.Rows.sortedHeap_at (vs := L'.map fun p => Value.ref p.1) (out := List.toArray out) ho
    have hg : s.heap.get? s1.heap.objs.size = none := by
      cases hq : s.heap.get? s1.heap.objs.size with
      | none => rfl
      | some o => exact absurd (Heap.lt_size (k1 _ _ hq)) (Nat.lt_irrefl _)
    have hn : H s1.heap.objs.size = none := I.hok.fresh z1
    have hlw : ws.length ≤ sizeLine := by
      rw [← w1.length, List.length_mergeSort, List.length_map, sizeLine_eq]
      omega
    have hk2 : ∀ b o, s.heap.get? b = some o → (sortedHeap (s1.heap.push { cls := .type "list", data := .seq (L'.map fun p => Value.ref p.1).toArray }) s1.heap.objs.size (L'.map fun p => Value.ref p.1) (List.toArray out)).get? b = some o := fun b o eb => by
      have e1 := k1 b o eb
      have lt := Heap.lt_size e1
      rw [PyProof.Rows.sortedHeap_old (Nat.ne_of_lt lt) (by rw [size_push']; exact Nat.lt_succ_of_lt lt)]
      exact Heap.get?_push_of_some _ e1
    have J : Inv X pins σ (upd H s1.heap.objs.size (.lst ws)) { s with heap := sortedHeap (s1.heap.push { cls := .type "list", data := .seq (L'.map fun p => Value.ref p.1).toArray }) s1.heap.objs.size (L'.map fun p => Value.ref p.1) (List.toArray out), gens := s1.gens, drawn := s1.drawn, toks := s1.toks } :=
      I.call (ch := []) (Un.laid hk2 z1 hn) (I.hok.laid hk2 z1 ⟨hlw, out, e, w2, he⟩) (by rw [g1]; exact I.bare) (fun _ z => nomatch z)
    have ee : ({ s1 with heap := sortedHeap (s1.heap.push { cls := .type "list", data := .seq (L'.map fun p => Value.ref p.1).toArray }) s1.heap.objs.size (L'.map fun p => Value.ref p.1) (List.toArray out) } : Shared) = { s with heap := sortedHeap (s1.heap.push { cls := .type "list", data := .seq (L'.map fun p => Value.ref p.1).toArray }) s1.heap.objs.size (L'.map fun p => Value.ref p.1) (List.toArray out), gens := s1.gens, drawn := s1.drawn, toks := s1.toks } := by
      cases s1
      cases s
      cases o1
      rfl
    refine wpAny_pure ⟨_, rfl, .ref s1.heap.objs.size, upd H s1.heap.objs.size (.lst ws), ?_, rfl, ?_⟩
    · exact ee ▸ J
    · exact q _ _ _ (le_push hn) (R.pushL hn w1) (.ref (R.last _))
theorem call_sset (hc : X.calm = true) (hu : X.A.units + 650 < cLine) {pins : List (Addr × Obj)} {σ : L2.St} {s : Shared} {d : D} {x : V} {u : Value} {Q : VK} (I : Inv X pins σ H s) (R : RS X.K cl m H S) (r : RD X.K m H d x) (rx : RelV x u) (h : bSset [d] S (up X.K cl m H Q)) :
    wpAny (model X.prog X.w) X.A (call (.type "set") [u]) (fun v s1 => wpAny (model X.prog X.w) X.A (call (.builtin "sorted") [v]) (EP X pins σ Q) X.xe s1) X.xe s := by
  unfold bSset at h
  dsimp only at h
  split at h
  · rename_i ns e
    cases e1 : lq? S d with
    | none => rw [e1] at e; cases e
    | some l =>
      rw [e1] at e
      obtain ⟨a, vs, rfl, hs, q⟩ := r.lq R e1
      have e2 := q.ints e
      subst e2
      cases rx
      obtain ⟨its, rv, pl, hz⟩ := I.list hs
      obtain ⟨h1, h2⟩ := h
      have hn : H s.heap.objs.size = none := I.hok.fresh (Nat.le_refl _)
      refine set_of_ints ns (I.ok.hd hc) pl.isList (by simpa using rv.ints) (by unfold scanBound; omega) fun g t c hS hcn hk => ?_
      have I2 : Inv X pins σ (upd H s.heap.objs.size (SetO X.w s.heap.objs.size (fun j => decide (j ∈ ns)) c)) { s with heap := g, toks := t } := I.laid (t' := t) hk (Nat.le_refl _) (setO_new hS)
      have q2 := cr_sortedSet hc pins { s with heap := g, toks := t } σ (upd H s.heap.objs.size (SetO X.w s.heap.objs.size (fun j => decide (j ∈ ns)) c)) [.ref s.heap.objs.size] [.ref s.heap.objs.size] Q I2 (.cons rfl .nil)
      refine q2 ⟨s.heap.objs.size, fun j => decide (j ∈ ns), c, rfl, upd_same, by omega, fun ks p p1 p2 p3 np => ?_⟩
      have R1 := R.new (u := SetO X.w s.heap.objs.size (fun j => decide (j ∈ ns)) c) hn
      have hr : RDs X.K m (upd H s.heap.objs.size (SetO X.w s.heap.objs.size (fun j => decide (j ∈ ns)) c)) (ks.map D.int) (ks.map V.int) := by
        clear p1 p2 p3
        induction ks with
        | nil => exact .nil
        | cons i ks ih => exact .cons (.int i) ih
      exact h2 ks p1 (fun k => by rw [p2]; simp) _ _ _ ((le_new hn).trans (le_push np)) (R1.pushL np hr) (.ref (R1.last p))
  · split at h
    · rename_i ts e
      cases e1 : lq? S d with
      | none => rw [e1] at e; cases e
      | some l =>
        rw [e1] at e
        obtain ⟨a, vs, rfl, hs, q⟩ := r.lq R e1
        obtain ⟨ks, rfl, hks, hT⟩ := itups_ks q e
        cases rx
        obtain ⟨its, rv, pl, hz⟩ := I.list hs
        obtain ⟨h1, h2⟩ := h
        have hkl : ks.length = ts.length := by rw [← hks, List.length_map]
        have sp : ∀ L' : List (Addr × List Int), (L'.map (·.2)).map tupI = L'.map fun p => tupI p.2 := fun L' => by rw [List.map_map]; rfl
        rcases h1 with h1 | ⟨h1, h3⟩
        · refine call_set_tups (P := X.prog) (w := X.w) ks (I.ok.hd hc) pl.isList (by simpa using refs_of_vals rv) (fun p hp => I.isT (hT p hp)) (by omega) (by omega) fun g tk L es ep t RT gt hk => ?_
          obtain ⟨o, ho, hex, hd⟩ := RT.ob
          have I2 : Inv X pins σ H { s with heap := g, toks := tk } := I.kept fun b o e => hk b o e
          refine sort_rows hc hu I2 R ⟨o, ho, hex.1, hd⟩ (SetTR.fits (s := { s with heap := g, toks := tk }) RT) RT.tab.ris RT.led RT.rows (by have := RT.few; omega) (fun p hp => hT p (List.mem_of_mem_take (gt.sub p hp))) fun L' pm => ?_
          rw [← sp]
          refine h2 _ ((pm.map (·.2)).nodup_iff.mpr RT.nd) fun k => ?_
          rw [← hks, (pm.map (·.2)).mem_iff]
          constructor
          · intro hm
            obtain ⟨p, hp, rfl⟩ := List.mem_map.mp hm
            exact List.mem_map.mpr ⟨p, List.mem_of_mem_take (gt.sub p hp), rfl⟩
          · intro hm
            obtain ⟨p, hp, rfl⟩ := List.mem_map.mp hm
            exact gt.all p (by rw [List.take_length]; exact hp)
        · have nd : (ks.map fun p => thash X.prog X.w p.2).Nodup := by
            rw [← hks, List.map_map] at h3
            exact h3
          refine set_of_tups (P := X.prog) (w := X.w) ks (I.ok.hd hc) pl.isList (by simpa using refs_of_vals rv) (fun p hp => I.isT (hT p hp)) (by omega) nd (by omega) fun g tk L es ep t RG pg hk => ?_
          obtain ⟨o, ho, hex, hd⟩ := RG.at_
          have I2 : Inv X pins σ H { s with heap := g, toks := tk } := I.kept fun b o e => hk b o e
          refine sort_rows hc hu I2 R ⟨o, ho, hex.1, hd⟩ (SetG.fit (s := { s with heap := g, toks := tk }) RG) RG.tab.ris RG.led RG.row RG.few (fun p hp => hT p (pg.mem_iff.mp hp)) fun L' pm => ?_
          rw [← sp]
          have n2 : (L'.map fun p => thash X.prog X.w p.2).Nodup := ((pm.trans pg).map _).nodup_iff.mpr nd
          refine h2 _ (nodup_of_map (f := hashT) (by rw [List.map_map]; exact n2)) fun k => ?_
          rw [← hks, ((pm.trans pg).map (·.2)).mem_iff]
    · exact h.elim
end
end Mn
namespace HT
open PySem PyProof.Rows PySem.Calls
section
variable {prog : Program} {w : World} {A : Around} {E : Value → Shared → Prop} {s : Shared}
theorem adjust_rev (n : Nat) : Builtin.Slice.sliceAdjust none none (-1) (n : Int) = ((n : Int) - 1, -1) := by
  unfold Builtin.Slice.sliceAdjust
  simp
theorem places_rev (n : Nat) : Builtin.Slice.slicePlaces ((n : Int) - 1) (-1) (-1) = n := by
  unfold Builtin.Slice.slicePlaces
  simp
  omega
theorem sliceApplied_rev {sl : Addr} {vs : Value} {n : Nat} {Q : Int × Int × Nat → Shared → Prop} (hs : s.heap.IsSliceOf sl .none .none vs) (ps : IsPart vs (some (-1)))
    (h : Q ((n : Int) - 1, -1, n) s) : wpAny (model prog w) A (Builtin.Slice.sliceApplied (.ref sl) (pure (n : Int))) Q E s := by
  obtain ⟨os, hos, hcs, hds⟩ := id hs
  unfold Builtin.Slice.sliceApplied Builtin.Slice.sliceFields
  refine wpAny_bind (wpAny_bind (wpAny_field hos hds (x := .none) rfl (wpAny_bind (wpAny_field hos hds (x := .none) rfl (wpAny_bind (wpAny_field hos hds (x := vs) rfl (wpAny_pure ?_)))))))
  refine wpAny_bind (slicePart_ ps ?_)
  show wpAny _ _ (if ((-1 : Int) == 0) = true then _ else _) _ _ s
  rw [if_neg (by decide)]
  refine wpAny_bind (slicePart_none (wpAny_bind (slicePart_none (wpAny_bind (wpAny_pure ?_)))))
  show wpAny _ _ (match Builtin.Slice.sliceAdjust none none (-1) (n : Int) with | (lo, hi) => pure (lo, (-1 : Int), Builtin.Slice.slicePlaces lo hi (-1))) _ _ s
  rw [adjust_rev]
  show wpAny _ _ (pure ((n : Int) - 1, (-1 : Int), Builtin.Slice.slicePlaces ((n : Int) - 1) (-1) (-1))) _ _ s
  rw [places_rev]
  exact wpAny_pure h
end
end HT
namespace HT
open PySem PyProof.Rows PySem.Calls
section
variable {prog : Program} {w : World} {A : Around} {E : Value → Shared → Prop} {s : Shared}
theorem fm_congr {α β : Type} (f g : α → Option β) : ∀ l : List α, (∀ x ∈ l, f x = g x) → l.filterMap f = l.filterMap g
  | [], _ => rfl
  | x :: l, h => by
    rw [List.filterMap_cons, List.filterMap_cons, h x List.mem_cons_self, fm_congr f g l fun y hy => h y (List.mem_cons_of_mem _ hy)]
theorem pick_rev (xs : Array Value) : ((List.range xs.size).filterMap fun (m : Nat) => xs[(((xs.size : Int) - 1) + (m : Int) * (-1)).toNat]?).toArray = xs.toList.reverse.toArray := by
  have e : (List.range xs.size).filterMap (fun (m : Nat) => xs[(((xs.size : Int) - 1) + (m : Int) * (-1)).toNat]?) = ((List.range xs.size).map fun k => xs.size - 1 - k).filterMap (xs[·]?) := by
    rw [List.filterMap_map]
    refine fm_congr _ _ _ fun k hk => ?_
    have := List.mem_range.mp hk
    show xs[_]? = xs[xs.size - 1 - k]?
    congr 1
    omega
  rw [e, PySem.W.krv_range, List.filterMap_reverse, PySem.W.krv_all]
theorem getItem_tuple_rev {t sl : Addr} {items : Array Value} {vs : Value} {Q : Value → Shared → Prop} (ht : IsTup s.heap t items) (hs : s.heap.IsSliceOf sl .none .none vs) (ps : IsPart vs (some (-1)))
    (h : Q (.ref s.heap.objs.size) { s with heap := s.heap.push { cls := .type "tuple", data := .seq items.toList.reverse.toArray } })
    (hsz : items.size ≤ sizeLine) : wpAny (model prog w) A (getItem (.ref t) (.ref sl)) Q E s := by
  have htake : sizeOk (.seq items.toList.reverse.toArray) := by
    show items.toList.reverse.toArray.size ≤ sizeLine
    rw [List.size_toArray, List.length_reverse, Array.length_toList]
    exact hsz
  obtain ⟨os, hos, hcs, hds⟩ := id hs
  have hTs : s.TypeIs (.ref sl) "slice" := ⟨os, hos, hcs⟩
  unfold getItem
  try with_reducible refine wpAny_holding ?_
  first | refine wpAny_bind (wpAny_pure ?_) | skip
  refine wpAny_bind (wpAny_sequenceKey ht.typeIs (by decide) ?_)
  refine wpAny_bind (wpAny_callSpecial?_slot (name := Str.ofString "__getitem__") ht.typeIs PyProof.Rows.slot_tuple_getitem
    (wpAny_call_entry PyProof.Rows.slot_tuple_getitem ht.typeIs entry_tuple_getitem ?_ (args_tuple_getitem _ _)))
  show wpAny _ _ (Builtin.Tuple.tupleItemsOf (.ref t) >>= _) _ _ s
  refine wpAny_bind (tupleItemsOf_ ht ?_)
  refine wpAny_bind (wpAny_typeOf hTs ?_)
  rw [if_pos (by decide)]
  refine wpAny_bind (sliceApplied_rev hs ps ?_)
  have hno : ¬ ((((items.size : Int) - 1 == 0 && (-1 : Int) == 1 && items.size == items.size)) = true) := by
    intro q
    rw [Bool.and_eq_true, Bool.and_eq_true] at q
    exact absurd (eq_of_beq q.1.2) (by decide)
  show wpAny _ _ (if ((items.size : Int) - 1 == 0 && (-1 : Int) == 1 && items.size == items.size) = true then _ else _) _ _ s
  rw [if_neg hno, pick_rev]
  first
    | exact wpAny_bind (m := Builtin.Tuple.tupleExact _) (wpAny_newObj_type (wpAny_pure ⟨_, rfl, wpAny_pure h⟩) htake)
    | exact wpAny_bind (m := Builtin.Tuple.tupleExact _) (wpAny_newObj_type (wpAny_bind (wpAny_pure (wpAny_pure ⟨_, rfl, wpAny_pure h⟩))) htake)
    | exact wpAny_bind (wpAny_bind (m := Builtin.Tuple.tupleExact _) (wpAny_newObj_type (wpAny_pure (wpAny_pure ⟨_, rfl, wpAny_pure h⟩)) htake))
    | exact wpAny_bind (wpAny_bind (m := Builtin.Tuple.tupleExact _) (wpAny_newObj_type (wpAny_pure ⟨_, rfl, wpAny_pure h⟩) htake))
end
end HT
namespace L2
open PySem PySem.Spec PyProof.Rows
section
variable {X : Cx}
def tRevA (K : PySem.W.Frag) (te : TE) : TE := fun σ H Q => te σ H fun x H1 => ∃ a xs, x = .ref a ∧ ((SqL K H1 a xs ∧ ∀ p, H1 p = none → Q (.ref p) (upd H1 p (.lst xs.reverse))) ∨ (SqT K H1 a xs ∧ ∀ p, H1 p = none → Q (.ref p) (upd H1 p (.tup xs.reverse))))
theorem pe_revA {e : Expr} {te : TE} {k : Nat} {p1 p2 p3 pos : Pos} (he : PE X e te) : PE X (.Subscript e (.Slice none none (some (.UnaryOp .USub (.Constant (.int 1) k p1) p2)) p3) pos) (tRevA X.K te) := by
  refine ⟨fun pins s σ H Q I h => ?_⟩
  refine Subscript_ (thn (he.run pins s σ H _ I h) fun v s1 ⟨x, H1, I1, r1, q1⟩ => ?_)
  obtain ⟨a, xs, ex, hxq⟩ := q1
  subst ex
  cases r1
  have hst : PO X (some (.UnaryOp .USub (.Constant (.int 1) k p1) p2)) (tPart (tUn (rU fun i => .int (-i)) (tC (.int 1)))) := po_some (pe_un un_neg pe_int)
  refine wpAny_Slice (thn (po_none.run pins s1 σ H1 (fun o H2 => o = none ∧ H2 = H1) I1 ⟨rfl, rfl⟩) fun vl s2 ⟨l, H2, I2, pl, el, e2⟩ => ?_)
  subst el e2
  refine thn (po_none.run pins s2 σ H2 (fun o H3 => o = none ∧ H3 = H2) I2 ⟨rfl, rfl⟩) fun vu s3 ⟨u, H3, I3, pu, eu, e3⟩ => ?_
  subst eu e3
  refine thn (hst.run pins s3 σ H3 (fun o H4 => o = some (-1) ∧ H4 = H3) I3 ⟨1, rfl, -1, rfl, rfl, rfl⟩) fun vs s4 ⟨o, H4, I4, ps, eo, e4⟩ => ?_
  subst eo e4
  have I5 : Inv X pins σ H4 { s4 with heap := s4.heap.push { cls := .type "slice", data := .fields #[vl, vu, vs] } } := I4.kept (t' := s4.toks) fun b ob q => Heap.get?_push_of_some _ q
  show wpAny (model X.prog X.w) X.A (subscriptTail e (.Slice none none (some (.UnaryOp .USub (.Constant (.int 1) k p1) p2)) p3) (.ref a) (.ref s4.heap.objs.size)) (EP X pins σ Q) X.xe { s4 with heap := s4.heap.push { cls := .type "slice", data := .fields #[vl, vu, vs] } }
  rcases hxq with ⟨hx, q⟩ | ⟨hx, q⟩
  · obtain ⟨its, r, ht, hz⟩ := I5.list hx
    have hlen := r.length
    refine tail_any (ops := [.ref a, .ref s4.heap.objs.size]) ht.isList.typeIs (PySem.slot_list_getitem.lookup) ?_ (by with_unfolding_all rfl)
    refine wpAny_getItem_list_slice ht.isList (Heap.IsSliceOf.new _ vl vu vs) pl pu ps (by decide) ?_ (by rw [List.size_toArray]; omega)
    rw [PySem.W.krv_pick]
    refine ⟨.ref _, _, I5.laid (t' := s4.toks) (o := .lst xs.reverse) (fun b ob q => Heap.get?_push_of_some _ q) (Nat.le_refl _) ?_, rfl, q _ (I5.hok.fresh (Nat.le_refl _))⟩
    exact ⟨by rw [List.length_reverse]; exact hz, _, 0, r.reverse, Heap.get?_push_size _ rfl⟩
  · obtain ⟨its, r, ht, hz⟩ := I5.tuple hx
    have hlen := r.length
    refine tail_any (ops := [.ref a, .ref s4.heap.objs.size]) ht.typeIs (PyProof.Rows.slot_tuple_getitem.lookup) ?_ (by with_unfolding_all rfl)
    cases pl
    cases pu
    refine HT.getItem_tuple_rev ht (Heap.IsSliceOf.new _ .none .none vs) ps ?_ (by rw [List.size_toArray]; omega)
    refine ⟨.ref _, _, I5.laid (t' := s4.toks) (o := .tup xs.reverse) (fun b ob q => Heap.get?_push_of_some _ q) (Nat.le_refl _) ?_, rfl, q _ (I5.hok.fresh (Nat.le_refl _))⟩
    exact ⟨by rw [List.length_reverse]; exact hz, _, r.reverse, IsTup.new _ _⟩
end
end L2
namespace Mn
open PySem PySem.Spec PyProof.Rows L2
theorem meets_enum_new1 {v : Value} {o : Obj} {H : Heap → Prop} (B : PySem.Begins v o H) :
    Meets (Builtin.«enumerate.__new__» ⟨[.type "enumerate", v], []⟩) (fun _ R s => H s.heap ∧
      R (.ok (.ret (.ref (s.heap.push o).objs.size))) { s with heap := (s.heap.push o).push { cls := .type "enumerate", data := .fields #[.none, .bool false, .ref s.heap.objs.size, rawInt 0, .none, .none] } }) :=
  .of_wp fun prog w A R s h => by
    obtain ⟨hp, g, d, tk, os⟩ := s
    obtain ⟨h1, h⟩ := h
    have hsub := sub_enumerate
    have q1 : ∀ {A' : Around} {E : Value → Shared → Prop} {Q : Value → Shared → Prop}, Q (.ref hp.objs.size) ⟨hp.push o, g, d, tk, os⟩ → wpAny (model prog w) A' (pyIter v) Q E ⟨hp, g, d, tk, os⟩ :=
      fun q => B.iter prog w _ _ ⟨hp, g, d, tk, os⟩ _ h1 q
    wp_walk using q1
    refine wpAny_stack_any fun st => wpAny_pure ?_
    split
    · rename_i c _ _ _ _ _
      cases (c == Value.type "enumerate")
      · wp_walk using q1
        exact ⟨_, rfl, h⟩
      · wp_walk using q1
        exact ⟨_, rfl, h⟩
    · wp_walk using q1
      exact ⟨_, rfl, h⟩
theorem enum_begins1 {prog : Program} {w : World} {A : Around} {E : Value → Shared → Prop} {s : Shared} {v : Value} {o : Obj} {H : Heap → Prop} {Q : Value → Shared → Prop} (B : PySem.Begins v o H) (h1 : H s.heap)
    (h : ∀ h', IsEnum h' (s.heap.objs.size + 1) s.heap.objs.size 0 .none → h'.get? s.heap.objs.size = some o → h'.objs.size = s.heap.objs.size + 2 →
      (∀ b o, s.heap.get? b = some o → h'.get? b = some o) → Q (.ref (s.heap.objs.size + 1)) { s with heap := h' }) :
    wpAny (model prog w) A (call (.type "enumerate") [v]) Q E s := by
  refine callType_new PySem.F.called_enumerate (by decide) (PySem.F.typeCall_enumerate_1 _) (PySem.F.newCall_enumerate_1 _) (fun obj => PySem.F.args_object_init_2 obj _) PySem.F.entry_enumerate_new
    (meets_enum_new1 B) ⟨h1, ?_⟩
  have hz : (s.heap.push o).objs.size = s.heap.objs.size + 1 := Heap.size_push ..
  show _ ∧ _
  rw [hz]
  have he : IsEnum ((s.heap.push o).push { cls := .type "enumerate", data := .fields #[.none, .bool false, .ref s.heap.objs.size, rawInt 0, .none, .none] }) (s.heap.objs.size + 1) s.heap.objs.size 0 .none := by
    have := Heap.get?_push_size (s.heap.push o) (o := { cls := .type "enumerate", data := .fields #[.none, .bool false, .ref s.heap.objs.size, rawInt 0, .none, .none] }) rfl
    rw [hz] at this
    exact this
  refine ⟨⟨_, he, rfl⟩, h _ he (Heap.get?_push_of_some _ (Heap.get?_push_size _ B.free)) (by rw [Heap.size_push, hz]) fun b o x => Heap.get?_push_of_some _ (Heap.get?_push_of_some _ x)⟩
def Iet (K : Fg) (a : Addr) : L2.It :=
  ⟨fun i H => ∃ (xs : List V) (x : V), SqT K H a xs ∧ xs[i]? = some x, fun i H v H' => ∃ T x, v = .ref T ∧ H T = none ∧ H' = upd H T (.tup [.int (i : Nat), x]) ∧ ∀ xs, SqT K H a xs → xs[i]? = some x, fun i H => ∃ xs : List V, SqT K H a xs ∧ xs.length ≤ i⟩
theorem turn_enumT {P : Program} {w : World} {K : Fg} {elts : List Expr} {kk : Nat} {tpos : Pos} (a e it : Addr) :
    Turn P w K (.Tuple elts kk tpos) (Iet K a) [e, it] e (fun i h => (∃ old, IsEnum h e it ((i : Nat) : Int) old) ∧ h.IsTupleIter it a i ∧ e ≠ it) where
  mem := by simp
  obj := fun i h st b hb => by
    obtain ⟨⟨old, he⟩, ⟨o, ho, hc, hd⟩, _⟩ := st
    have e' : b = e ∨ b = it := by simpa using hb
    rcases e' with z | z
    · rw [z]; exact ⟨_, he, fun v q => nomatch q⟩
    · rw [z]; exact ⟨o, ho, fun v q => by rw [hd] at q; cases q⟩
  keep := fun i h h' st k => let ⟨⟨old, he⟩, hi, hne⟩ := st; ⟨⟨old, k e (by simp) _ he⟩, hi.at fun o q => k it (by simp) o q, hne⟩
  item := by
    intro X hP hw hK hc i pins s σ H E I hf st hg
    subst hP hw hK
    obtain ⟨⟨old, he⟩, hit, hne⟩ := st
    obtain ⟨xs, x, hq, hx⟩ := hg
    obtain ⟨its, rv, p, hz⟩ := I.tuple hq
    obtain ⟨u, hu, ru⟩ := rv.get hx
    have hp : s.heap.IsTuple a its.toArray := p
    have hel : e < s.heap.objs.size := Heap.lt_size he
    have hil : it < s.heap.objs.size := by obtain ⟨_, q, _⟩ := hit; exact Heap.lt_size q
    have hae : a ≠ e := fun z => by
      obtain ⟨o1, h1, c1, n1, d1⟩ := hp
      rw [z, he] at h1
      cases h1
      exact absurd (Value.type.inj c1) (by decide)
    have hai : a ≠ it := fun z => by
      obtain ⟨o1, h1, c1, n1, d1⟩ := hp
      obtain ⟨o2, h2, c2, d2⟩ := hit
      rw [z, h2] at h1
      cases h1
      rw [c2] at c1
      exact absurd (Value.type.inj c1) (by decide)
    have hlt : i < its.toArray.size := by
      have := (List.getElem?_eq_some_iff.mp hu).1
      simpa using this
    refine wpAny_pyNext_enum_itemD (fp := [it, a]) (Draws.tuple (A := X.A.in1) (I.ok.hd hc) it a hai its.toArray) he ⟨hit, hp⟩ hlt hne (by simp; exact ⟨hne, fun z => hae z.symm⟩) fun y h' tk hy ho hit' hT hsz hk => ?_
    have ey : y = u := by
      have h1 : its[i]? = some y := by simpa using hy
      rw [hu] at h1
      cases h1
      rfl
    subst ey
    refine ⟨_, rfl, wpAny_letOwnedTupleGo_enum (s := { s with heap := h', toks := tk + 1 }) ho fun h'' he' sb => ?_⟩
    have hT2 : h''.get? s.heap.objs.size = some { cls := .type "tuple", data := .seq #[.int i tk, y] } := (sb.2 _ (Nat.ne_of_gt hel)).trans hT
    have new : ObjOk X.prog X.w (upd H s.heap.objs.size (.tup [.int (i : Nat), x])) h'' s.heap.objs.size (.tup [.int (i : Nat), x]) :=
      ⟨by show 2 ≤ sizeLine; decide, [.int i tk, y], .cons ⟨_, rfl⟩ (.cons ru .nil), ⟨_, hT2, rfl, _, rfl⟩⟩
    have I1 : Inv X pins σ (upd H s.heap.objs.size (.tup [.int (i : Nat), x])) { s with heap := h'', toks := tk + 1 } :=
      I.turnedNew (ch := [e, it]) (fun b ob hb q => (sb.2 b (fun z => hb (by simp [z]))).trans (hk b ob (fun z => hb (by simp [z])) (fun z => hb (by simp [z])) q)) hf (Nat.le_refl _) new
    refine ⟨.ref s.heap.objs.size, _, I1, rfl, ⟨_, x, rfl, I.hok.fresh (Nat.le_refl _), rfl, fun ys hy => by rw [I.tuple_inj hy hq]; exact hx⟩, ⟨⟨y, ?_⟩, hit'.1.at fun o q => (sb.2 it (Ne.symm hne)).trans q, hne⟩, fun b hb => ?_⟩
    · have e1 : ((i + 1 : Nat) : Int) = (i : Int) + 1 := by omega
      rw [e1]; exact he'
    · have hb' : b < s.heap.objs.size := by
        have e' : b = e ∨ b = it := by simpa using hb
        rcases e' with z | z
        · rw [z]; exact hel
        · rw [z]; exact hil
      rw [upd_ne (Nat.ne_of_lt hb')]
      exact (hf b hb).1
  done := by
    intro X hP hw hK hc i pins s σ H E I hf st hg
    subst hP hw hK
    obtain ⟨⟨old, he⟩, hit, hne⟩ := st
    obtain ⟨xs, hq, hx⟩ := hg
    obtain ⟨its, rv, p, hz⟩ := I.tuple hq
    have hp : s.heap.IsTuple a its.toArray := p
    obtain ⟨f0, f1, f2, f3, f4, f5⟩ := hf it (by simp)
    have hl := rv.length
    have hT : s.TypeIs (.ref e) "enumerate" := ⟨_, he, rfl⟩
    unfold pyNext
    refine wpAny_bind (wpAny_attempt (wpAny_callSpecial?_slot (name := Str.ofString "__next__") hT PySem.F.slot_enumerate_next
      (wpAny_call_entry PySem.F.slot_enumerate_next hT PySem.F.entry_enumerate_next ?_ (PySem.F.args_enumerate_next_1 _))))
    show wpAny _ _ (field (.ref e) 2 >>= _) _ _ _
    refine wpAny_bind (wpAny_field he rfl (x := .ref it) rfl ?_)
    refine wpAny_bind (wpAny_nextOf_tuple_end (I.ok.hd hc) hit hp (by simp; omega) fun h' x hx' ho' => ?_)
    obtain ⟨o, ho, hc'⟩ := ho'
    refine wpAny_bind (wpAny_isInstance (T := "StopIteration") (b := true) ⟨o, ho, hc'⟩ isSubtype_stop ?_)
    exact wpAny_pure ⟨rfl, I.turned (t' := s.toks) (fun b o hb q => hx' b o hb q) f0 f1 f3 f4 f5⟩
  self := fun A i s Q E st h => let ⟨⟨_, he⟩, _⟩ := st; wpAny_pyIter_enum he h
def iEnums (K : Fg) (ta : TA) : TI := fun σ H R => ta σ H fun vs H1 => ∃ a, vs = [.ref a] ∧ (((∃ xs, SqL K H1 a xs) ∧ R (Ite K a) H1) ∨ ((∃ xs, SqT K H1 a xs) ∧ R (Iet K a) H1))
theorem pi_enums {X : Cx} {e : Expr} {ta : TA} {p pos tpos : Pos} {elts : List Expr} {kk : Nat} (hg : Gl X "enumerate") (hm : X.mg "enumerate" = none) (ha : PA X [e] ta) (hs : starEach [e] X.env = [(false, eval e X.env)]) :
    PI X (.Tuple elts kk tpos) (.Call (.Name "enumerate" p) [e] [] pos) (iEnums X.K ta) := by
  refine ⟨fun pins s σ H R I h => ?_⟩
  refine Call_ (ld_blt I hg hm boot_enumerate (PyProof.Rows.callWith_type1 (thn (ha.run pos pins s σ H _ I h) fun us s1 ⟨vs, H1, I1, r1, q1⟩ => ?_) hs rfl))
  obtain ⟨a, ex, q1⟩ := q1
  subst ex
  have new : ∀ b ∈ [s1.heap.objs.size + 1, s1.heap.objs.size], FpOk X pins H1 b := fun b hb => by
    have e' : b = s1.heap.objs.size + 1 ∨ b = s1.heap.objs.size := by simpa using hb
    have hle : s1.heap.objs.size ≤ b := by
      rcases e' with z | z
      · rw [z]; exact Nat.le_add_right _ _
      · rw [z]; exact Nat.le_refl _
    exact I1.fpOk hle (I1.hok.fresh hle)
  cases r1 with
  | cons r rr =>
    cases rr
    cases r
    rcases q1 with ⟨⟨xs, hq⟩, q⟩ | ⟨⟨xs, hq⟩, q⟩
    · obtain ⟨its, rv, p', hz⟩ := I1.list hq
      refine call_enumerate_list p'.isList fun h' he hit hsz hk => wpAny_pyIter_enum he ?_
      exact ⟨s1.heap.objs.size + 1, [s1.heap.objs.size + 1, s1.heap.objs.size], _, _, H1, rfl, I1.kept (t' := s1.toks) hk, turn_enum a (s1.heap.objs.size + 1) s1.heap.objs.size, ⟨⟨.none, he⟩, hit, Nat.succ_ne_self _⟩, new, q⟩
    · obtain ⟨its, rv, p', hz⟩ := I1.tuple hq
      have hp : s1.heap.IsTuple a its.toArray := p'
      refine enum_begins1 (PySem.begins_tuple a its.toArray) hp fun h' he hit hsz hk => wpAny_pyIter_enum he ?_
      exact ⟨s1.heap.objs.size + 1, [s1.heap.objs.size + 1, s1.heap.objs.size], _, _, H1, rfl, I1.kept (t' := s1.toks) hk, turn_enumT a (s1.heap.objs.size + 1) s1.heap.objs.size, ⟨⟨.none, he⟩, ⟨_, hit, rfl, rfl⟩, Nat.succ_ne_self _⟩, new, q⟩
def iKeysF (td : TE) : TI := fun σ H R => td σ H fun x H1 => ∃ d kvs, x = .ref d ∧ ((H1 d = some (.dK kvs) ∧ ∀ o, R (Itk d o kvs) (upd H1 d (.frz o (.dK kvs)))) ∨ ∃ o, H1 d = some (.frz o (.dK kvs)) ∧ R (Itk d o kvs) H1)
theorem pi_keysF {X : Cx} {tg e : Expr} {td : TE} (he : PE X e td) : PI X tg e (iKeysF td) := by
  refine ⟨fun pins s σ H R I h => ?_⟩
  refine thn (he.run pins s σ H _ I h) fun u s1 ⟨x, H1, I1, rx, d, kvs, ex, q⟩ => ?_
  subst ex
  obtain rfl : u = Value.ref d := rx
  rcases q with ⟨hd, q⟩ | ⟨o, hd, q⟩
  · obtain ⟨o, I2⟩ := I1.lock hd trivial
    obtain ⟨hs, hgd, hx, es, ep, vs, hdt, hsz, kv, hm⟩ := I2.frzK upd_same
    refine iter_keys hs hgd hx hdt (pi_one (tk := s1.toks) I2 _ (turn_keys _ hdt) ⟨_, Heap.get?_push_size _ rfl, rfl, ?_⟩ (q o))
    rw [hsz] <;> rfl
  · obtain ⟨hs, hgd, hx, es, ep, vs, hdt, hsz, kv, hm⟩ := I1.frzK hd
    refine iter_keys hs hgd hx hdt (pi_one (tk := s1.toks) I1 _ (turn_keys _ hdt) ⟨_, Heap.get?_push_size _ rfl, rfl, ?_⟩ q)
    rw [hsz] <;> rfl
end Mn
namespace LamX
open PySem PySem.Spec PyProof.Rows L2
def keyE (x : Str) (sl : Expr) (p1 p2 p3 p4 : Pos) : Expr := .Call (.Name "len" p1) [.Subscript (.Name x p2) sl p3] [] p4
def IsIx (sl : Expr) (i : Int) : Prop := (∃ k p, sl = .Constant (.int i) k p) ∨ ∃ (n : Int) (k : Nat) (p1 p2 : Pos), sl = .UnaryOp .USub (.Constant (.int n) k p1) p2 ∧ i = -n
section
variable {prog : Program} {w : World}
theorem ix_run {A : Around} {E : Value → Shared → Prop} {env : Env} {sl : Expr} {i : Int} (h : IsIx sl i) {s : Shared} {Q : Value → Shared → Prop} (q : ∀ t k, Q (.int i t) { s with toks := k }) : wpAny (model prog w) A (eval sl env) Q E s := by
  rcases h with ⟨k, p, rfl⟩ | ⟨n, k, p1, p2, rfl, rfl⟩
  · exact wpAny_Constant_int (q _ _)
  · refine wpAny_UnaryOp (wpAny_Constant_int ?_)
    exact neg_int (q _ _)
theorem sub_run {A : Around} {E : Value → Shared → Prop} {env : Env} {x : Str} {sl : Expr} {i : Int} {p2 p3 : Pos} (h : IsIx sl i) {s : Shared} {t : Addr} {items : Array Value} {j : Nat} {y : Value} {m : Str → Option Value} {Q : Value → Shared → Prop}
    (hk : env.scope.kind = .function) (hl : env.scope.names.lookup x = some .local) (hn : s.heap.Ns env.locals m) (hm : m x = some (.ref t)) (hd : (x == ("__debug__" : Str)) = false)
    (ht : IsTup s.heap t items) (hlo : -(2 ^ 63) ≤ i) (hhi : i < 2 ^ 63) (hj : seqIndex? i items.size = some j) (hy : items[j]? = some y)
    (q : ∀ k, Q y { s with toks := k }) : wpAny (model prog w) A (eval (.Subscript (.Name x p2) sl p3) env) Q E s := by
  have key : wpAny (model prog w) A (eval (.Name x p2) env) (fun o s₁ => wpAny (model prog w) A (eval sl env) (fun i s₂ => ItemOn (model prog w) A E o i Q s₂) E s₁) E s := by
    refine wpAny_Name (wpAny_loadName_local hk hl hn hm ?_) hd
    refine ix_run h fun u k => ?_
    exact ⟨"tuple", _, slot_tuple_getitem.lookup, ht.typeIs, getItem_tuple ht hlo hhi hj hy (q k)⟩
  rcases h with ⟨k, p, rfl⟩ | ⟨n, k, p1, p2, rfl, rfl⟩
  · exact Subscript_Constant key
  · exact Subscript_UnaryOp key
theorem key_turn {A : Around} {s : Shared} {f c' t u : Addr} {items its : Array Value} {i : Int} {j : Nat} {q x : Str} {scope : Scope} {cl : List (Str × Addr)} {pm ctv : Value} {params : Arguments} {sl : Expr} {p1 p2 p3 p4 : Pos} {mg mb : Str → Option Value}
    (hi : IsIx sl i) (hf : s.heap.get? f = some (PySem.W.kla_obj "<lambda>" q params (keyE x sl p1 p2 p3 p4) scope cl pm c' ctv)) (hcd : s.heap.CodeRec (.ref c') q) (hroom : A.depth < recursionLimit) (hlim : s.heap.NoLimit)
    (hbind : ∀ v : Value, bindArgs (PySem.W.kla_fn "<lambda>" q params (keyE x sl p1 p2 p3 p4) scope cl pm (.ref c') ctv) ⟨[v], []⟩ = pure [(x, v)])
    (hk : scope.kind = .function) (hco : scope.isCoroutine = false) (hgen : scope.isGenerator = false) (hcell : ∀ y ∈ scope.names, y.2 ≠ .cell) (hl : scope.names.lookup x = some .local) (hlen : scope.names.lookup ("len" : Str) = some .globalImplicit)
    (hd : (x == ("__debug__" : Str)) = false) (hg : s.heap.Ns mainGlobals mg) (hb : s.heap.Ns builtinsNs mb) (hmiss : mg "len" = none) (hbl : mb "len" = some (.builtin "len"))
    (ht : IsTup s.heap t items) (hlo : -(2 ^ 63) ≤ i) (hhi : i < 2 ^ 63) (hj : seqIndex? i items.size = some j) (hy : items[j]? = some (.ref u)) (hu : IsTup s.heap u its) (hfit : (its.size : Int) < 2 ^ 63) :
    wpAny (model prog w) A (call (.ref f) [.ref t]) (PySem.W.KeyPure (.int its.size) s) (fun _ _ => False) s := by
  refine wpAny_call ?_
  refine PySem.W.kla_callFunE hroom hf rfl hco hgen rfl hcd ?_
  rw [hbind]
  refine wpAny_pure (wpAny_newFunctionEnv hcell (fun y hy => by rw [List.mem_singleton.mp hy]; exact hl) (fun h₁ hns hsb => ⟨hlim.fresh _ hsb, ?_⟩) hk)
  have kp : ∀ b o, s.heap.get? b = some o → h₁.get? b = some o := fun b o e => hsb.extBut b o (Nat.ne_of_lt (Heap.lt_size e)) (Heap.get?_push_of_some _ e)
  refine PySem.W.kla_codeExpr ?_
  show wpAny _ _ (eval (.Call (.Name "len" p1) [.Subscript (.Name x p2) sl p3] [] p4) _) _ _ _
  refine wpAny_Call_Name_kw (Calls.Name_function_global hk hlen (Calls.loadGlobal_builtin (hg.keeps kp) hmiss (hb.keeps kp) hbl ?_) (by decide))
  refine callWith_kw (e := .Subscript (.Name x p2) sl p3) (rest := []) (kws := []) ?_ rfl rfl rfl rfl
  show wpAny _ _ (spliced ((false, eval (.Subscript (.Name x p2) sl p3) _) :: backTo p4 (starEach [] _))) _ _ _
  refine Calls.spliced_cons ?_
  refine sub_run hi hk hl hns (by simp) hd (ht.keeps kp) hlo hhi hj hy fun k => ?_
  refine Calls.spliced_nil ?_
  show wpAny _ _ (pure []) _ _ _
  refine wpAny_pure ?_
  refine len_tuple (hu.keeps kp) hfit ?_
  exact ⟨h₁, _, rfl, kp, .int _ _⟩
end
def KeyOf (K : PySem.W.Frag) (H : Hp) (i : Int) (v : V) (n : Nat) : Prop := ∃ (t : Addr) (us : List V) (u : Addr) (ws : List V), v = .ref t ∧ SqT K H t us ∧ atI us i = some (.ref u) ∧ SqT K H u ws ∧ n = ws.length
def zsort (zs : List (V × Nat)) : List (V × Nat) := zs.mergeSort fun a b => decide (a.2 ≤ b.2)
def tSkl (K : PySem.W.Frag) (T : List (Addr × Str)) (te : TE) (i : Int) : TE := fun σ H Q => te σ H fun x H1 => ∃ a, x = .ref a ∧ Tabs T H1 ∧ ∀ H2, ExtN H1 H2 → Tabs T H2 →
  ∃ zs : List (V × Nat), SqL K H2 a (zs.map Prod.fst) ∧ (∀ z ∈ zs, KeyOf K H2 i z.1 z.2) ∧ ∀ p, H2 p = none → Q (.ref p) (upd H2 p (.lst ((zsort zs).map Prod.fst)))
theorem each_vals : ∀ {zs : List (V × Nat)} {us : List Value}, Vals (zs.map Prod.fst) us → PySem.W.EachIs (fun u z => RelV z.1 u) us zs
  | [], _, .nil => .nil
  | _ :: _, _, .cons r rs => .cons r (each_vals rs)
theorem vals_each : ∀ {zs : List (V × Nat)} {us : List Value}, PySem.W.EachIs (fun u z => RelV z.1 u) us zs → Vals (zs.map Prod.fst) us
  | [], _, .nil => .nil
  | _ :: _, _, .cons r rs => .cons r (vals_each rs)
section
variable {X : Cx}
theorem pe_skl {T : List (Addr × Str)} {c P : Addr} {e : Expr} {te : TE} {i : Int} {x : Str} {scope : Scope} {params : Arguments} {sl : Expr} {p1 p2 p3 p4 pa kp lpos pos : Pos}
    (TB : TabB X.base X.mg c P) (hcode : X.env.code = .ref c) (hmT : (P, X.env.qual ++ "<lambda>") ∈ T) (hu : ∀ p ∈ T, p.1 = P → p.2 = X.env.qual ++ "<lambda>") (hr : Room 1 X.A)
    (hfree : ∀ y ∈ scope.names, y.2 ≠ .free) (hdef : ∀ env : Env, defaultsOf params env = ([], []))
    (hi : IsIx sl i) (hlo : -(2 ^ 63) ≤ i) (hhi : i < 2 ^ 63)
    (hbind : ∀ (q : Str) (cl : List (Str × Addr)) (pm cv ctv v : Value), bindArgs (PySem.W.kla_fn "<lambda>" q params (keyE x sl p1 p2 p3 p4) scope cl pm cv ctv) ⟨[v], []⟩ = pure [(x, v)])
    (hk : scope.kind = .function) (hco : scope.isCoroutine = false) (hgen : scope.isGenerator = false) (hcell : ∀ y ∈ scope.names, y.2 ≠ .cell) (hl : scope.names.lookup x = some .local) (hlen : scope.names.lookup ("len" : Str) = some .globalImplicit) (hd : (x == ("__debug__" : Str)) = false)
    (hg : Gl X "sorted") (hm : X.mg "sorted" = none) (hmL : X.mg "len" = none) (he : PE X e te) (hs : backTo pos (starEach [e] X.env) = (false, eval e X.env) :: backTo pos (starEach [] X.env)) :
    PE X (.Call (.Name "sorted" pa) [e] [⟨some "key", .Lambda params (keyE x sl p1 p2 p3 p4) scope lpos, kp⟩] pos) (tSkl X.K T te i) := by
  refine ⟨fun pins s σ H Q I h => ?_⟩
  refine wpAny_Call_Name_kw (ld_blt I hg hm rfl ?_)
  refine callWith_kw ?_ hs (by rw [hs]; rfl) rfl rfl
  rw [hs]
  refine Calls.spliced_cons (thn (he.run pins s σ H _ I h) fun u s1 ⟨v, H1, I1, r1, q1⟩ => ?_)
  obtain ⟨a, ev, hT, q1⟩ := q1
  subst ev
  obtain rfl : u = Value.ref a := r1
  refine Calls.spliced_nil ?_
  show wpAny _ _ (evalAll [(do let v ← eval (.Lambda params (keyE x sl p1 p2 p3 p4) scope lpos) X.env; standAt pos; pure v)]) _ _ _
  refine wpAny_evalAll_cons (wpAny_bind (lam_make2 I1 TB hcode hmT hu hT (hdef _) (fun y hy e => absurd e (hfree y hy)) fun f c' pm' ctv H2 s2 I2 eN T2 hf hfn hfr hco' => ?_))
  refine wpAny_bind (wpAny_standAt (wpAny_pure (wpAny_evalAll_nil ?_)))
  obtain ⟨zs, hx, hz, q⟩ := q1 H2 eN T2
  obtain ⟨its, rv, hli, hsz⟩ := I2.list hx
  obtain ⟨⟨oc, vs, t, hoc, hdc, hvc⟩, _, _⟩ := I2.hok c' _ hco'
  obtain ⟨mb, hb1, hb2⟩ := I2.mod.blt
  have hun := hr.un
  have hdp := hr.dp
  have hlen2 : its.length = zs.length := by
    have := rv.length
    rw [List.length_map] at this
    exact this.symm
  refine PySem.W.sorted_key_data (b := false) (R := fun u (z : V × Nat) => RelV z.1 u) (bs := zs) (fun z : V × Nat => PyData.int (z.2 : Int)) hli.isList (each_vals rv) (PySem.W.AllAlike.of fun _ _ => by simp [PySem.W.alike]) (PySem.W.Sortable.others fun _ => ⟨(by simp), fun _ => (by simp)⟩) (by rw [← hlen2]; rw [List.length_map] at hsz; omega)
    (fun z _ => by show X.A.units + 2 + 0 < cLine; omega) (PyProof.Rows.ksk_s1 _ _) (fun _ => PyProof.Rows.ksk_l1 _ _) (fun _ => PyProof.Rows.ksk_t1 _ _)
    (fun u z hR hzm h tk kp => ?_) fun out c h' tk kp _ hD _ eo => ?_
  · obtain ⟨t, us, w, ws, ev, hus, hat, hws, hn⟩ := hz z hzm
    obtain ⟨zv, zn⟩ := z
    dsimp only at ev hR hn
    subst ev
    obtain rfl : u = Value.ref t := hR
    obtain ⟨items, r1, ht1, hz1⟩ := I2.tuple hus
    obtain ⟨itw, r2, ht2, hz2⟩ := I2.tuple hws
    obtain ⟨j, hj, hjv, _⟩ := atI_get hat
    obtain ⟨y, hy, ry⟩ := r1.get hjv
    obtain rfl : y = Value.ref w := ry
    have e1 := r1.length
    have e2 := r2.length
    have hl63 := line63
    have bk : ∀ b o, X.base.get? b = some o → h.get? b = some o := fun b o e => kp b o (I2.bk b o e)
    rw [hn, e2]
    have hturn := key_turn (prog := X.prog) (w := X.w) (A := X.A.in1.in1) (s := { s2 with heap := h, toks := tk }) (items := items.toArray) (its := itw.toArray) (j := j) (mg := X.mg) (mb := mb) hi (kp _ _ hf) ⟨c', oc, vs, _, rfl, kp _ _ hoc, hdc, hvc⟩
      (show X.A.depth < recursionLimit by omega) (I2.mod.nolimit.keeps bk) (hbind _ _ _ _ _) hk hco hgen hcell hl hlen hd (I2.mod.glob.keeps bk) (hb1.keeps bk) hmL ((hb2 _ (by decide)).trans rfl) (ht1.keeps kp) hlo hhi (by rw [List.size_toArray, ← e1]; exact hj) (by rw [List.getElem?_toArray]; exact hy) (ht2.keeps kp) (by rw [List.size_toArray]; omega)
    rw [List.size_toArray] at hturn
    exact hturn
  · rw [PySem.W.dataLe_int (β := V × Nat) (fun z => (z.2 : Int))] at eo
    have eo2 : PySem.W.EachIs (fun u (z : V × Nat) => RelV z.1 u) out (zsort zs) := by
      unfold zsort
      have : (fun a b : V × Nat => decide ((a.2 : Int) ≤ (b.2 : Int))) = fun a b => decide (a.2 ≤ b.2) := by
        funext a b
        exact decide_eq_decide.mpr (by omega)
      rw [← this]
      exact eo
    have rl : ((zsort zs).map Prod.fst).length ≤ sizeLine := by
      unfold zsort
      rw [List.length_map, List.length_mergeSort]
      rw [List.length_map] at hsz
      exact hsz
    exact ⟨.ref _, upd H2 (s2.heap.objs.size + 1) (.lst ((zsort zs).map Prod.fst)), I2.laid (t' := tk) kp (Nat.le_succ _) ⟨rl, out, c, vals_each eo2, hD⟩, rfl, q _ (I2.hok.fresh (Nat.le_succ _))⟩
end
end LamX
namespace Mn
open PySem PySem.Spec PySem.Calls PyProof.Rows L2
def oneArg (x : Str) : Arguments → Bool
  | ⟨[], [⟨y, none, _⟩], none, [], [], none, []⟩ => decide (y = x) && (decide (x = "one") || decide (x = "tree"))
  | _ => false
def ixB (i : Int) : Expr → Bool
  | .Constant (.int n) _ _ => decide (n = i)
  | .UnaryOp .USub (.Constant (.int n) _ _) _ => decide (i = -n)
  | _ => false
def keyScB (scope : Scope) (x : Str) : Bool := decide (scope.kind = .function) && !scope.isCoroutine && !scope.isGenerator && (scope.names.all fun y => !decide (y.2 = .cell) && !decide (y.2 = .free)) && decide (scope.names.lookup x = some .local) && decide (scope.names.lookup ("len" : Str) = some .globalImplicit)
def keyB (i : Int) (params : Arguments) (body : Expr) (scope : Scope) : Bool := match body with
  | .Call (.Name y _) [.Subscript (.Name x _) sl _] [] _ => decide (y = "len") && ixB i sl && oneArg x params && keyScB scope x && !(x == ("__debug__" : Str)) && decide (-(2 ^ 63) ≤ i) && decide (i < 2 ^ 63)
  | _ => false
theorem ix_of {i : Int} {sl : Expr} (h : ixB i sl = true) : LamX.IsIx sl i := by
  unfold ixB at h
  split at h
  · have := of_decide_eq_true h
    subst this
    exact .inl ⟨_, _, rfl⟩
  · have := of_decide_eq_true h
    exact .inr ⟨_, _, _, _, rfl, this⟩
  · cases h
theorem bind_one {x : Str} (h : x = "one" ∨ x = "tree") (pp : Pos) (body : Expr) (scope : Scope) (q : Str) (cl : List (Str × Addr)) (pm cv ctv v : Value) :
    bindArgs (PySem.W.kla_fn "<lambda>" q ⟨[], [⟨x, none, pp⟩], none, [], [], none, []⟩ body scope cl pm cv ctv) ⟨[v], []⟩ = pure [(x, v)] := by
  rcases h with rfl | rfl
  · rfl
  · rfl
theorem key_of {i : Int} {params : Arguments} {body : Expr} {scope : Scope} (h : keyB i params body scope = true) :
    ∃ (x : Str) (sl : Expr) (p1 p2 p3 p4 : Pos), body = LamX.keyE x sl p1 p2 p3 p4 ∧ (∀ y ∈ scope.names, y.2 ≠ .free) ∧ (∀ env : PySem.Env, defaultsOf params env = ([], [])) ∧ LamX.IsIx sl i ∧ -(2 ^ 63) ≤ i ∧ i < 2 ^ 63 ∧
      (∀ (q : Str) (cl : List (Str × Addr)) (pm cv ctv v : Value), bindArgs (PySem.W.kla_fn "<lambda>" q params (LamX.keyE x sl p1 p2 p3 p4) scope cl pm cv ctv) ⟨[v], []⟩ = pure [(x, v)]) ∧ scope.kind = .function ∧ scope.isCoroutine = false ∧ scope.isGenerator = false ∧ (∀ y ∈ scope.names, y.2 ≠ .cell) ∧
      scope.names.lookup x = some .local ∧ scope.names.lookup ("len" : Str) = some .globalImplicit ∧ (x == ("__debug__" : Str)) = false := by
  unfold keyB at h
  split at h
  · rename_i y p1 x p2 sl p3 p4
    simp only [Bool.and_eq_true, decide_eq_true_eq, Bool.not_eq_true'] at h
    obtain ⟨⟨⟨⟨⟨⟨e1, h2⟩, h3⟩, h4⟩, h5⟩, h6⟩, h7⟩ := h
    subst e1
    unfold keyScB at h4
    simp only [Bool.and_eq_true, decide_eq_true_eq, Bool.not_eq_true', List.all_eq_true, decide_eq_false_iff_not] at h4
    obtain ⟨⟨⟨⟨⟨g1, g2⟩, g3⟩, g4⟩, g5⟩, g6⟩ := h4
    unfold oneArg at h3
    split at h3
    · simp only [Bool.and_eq_true, Bool.or_eq_true, decide_eq_true_eq] at h3
      obtain ⟨e3, h3⟩ := h3
      subst e3
      exact ⟨_, sl, p1, p2, p3, p4, rfl, fun y hy => (g4 y hy).2, fun _ => rfl, ix_of h2, h6, h7, (fun _ _ _ _ _ _ => bind_one h3 _ _ _ _ _ _ _ _ _), g1, g2, g3, fun y hy => (g4 y hy).1, g5, g6, h5⟩
    · cases h3
  · cases h
theorem klen_rel {K : Fg} {m : List Addr} {H : Hp} {i : Int} {d : D} {v : V} (r : RD K m H d v) (h : (klen i d).isSome = true) : LamX.KeyOf K H i v (klen0 i d) := by
  cases d with
  | tup l =>
    unfold klen0
    unfold klen at h ⊢
    dsimp only at h ⊢
    cases e : L2.atI l i with
    | none => rw [e] at h; cases h
    | some x =>
      rw [e] at h
      cases x with
      | tup es =>
        cases r with
        | tup hs ql =>
          rename_i a vs
          obtain ⟨j, hj, hjv, _⟩ := atI_get e
          obtain ⟨w, hw, rw_⟩ := ql.get hjv
          cases rw_ with
          | tup hs2 ql2 =>
            rename_i b ws
            refine ⟨a, vs, b, ws, rfl, hs, ?_, hs2, ql2.length⟩
            have hl := ql.length
            unfold L2.atI at e ⊢
            rw [← hl]
            cases e2 : L2.ixN l.length i with
            | none => rw [e2] at e; cases e
            | some k =>
              rw [e2] at e
              have hk := (ixN_seq e2).1
              rw [hj] at hk
              cases hk
              exact hw
      | _ => cases h
  | _ => cases h
theorem rds_of {K : Fg} {m : List Addr} {H : Hp} : ∀ {ws : List (D × (V × Nat))}, (∀ w ∈ ws, RD K m H w.1 w.2.1) → RDs K m H (ws.map Prod.fst) (ws.map fun w => w.2.1)
  | [], _ => .nil
  | w :: ws, h => .cons (h w List.mem_cons_self) (rds_of fun x hx => h x (List.mem_cons_of_mem _ hx))
theorem skl_rel {K : Fg} {m : List Addr} {H : Hp} {i : Int} {l : List D} {vs : List V} (hk : (l.all fun d => (klen i d).isSome) = true) (r : RDs K m H l vs) :
    ∃ zs : List (V × Nat), zs.map Prod.fst = vs ∧ (∀ z ∈ zs, LamX.KeyOf K H i z.1 z.2) ∧ RDs K m H (sklL i l) ((LamX.zsort zs).map Prod.fst) := by
  have key : ∀ {l : List D} {vs : List V}, (l.all fun d => (klen i d).isSome) = true → RDs K m H l vs → ∃ ws : List (D × (V × Nat)), ws.map Prod.fst = l ∧ (ws.map fun w => w.2.1) = vs ∧ ∀ w ∈ ws, RD K m H w.1 w.2.1 ∧ LamX.KeyOf K H i w.2.1 w.2.2 ∧ w.2.2 = klen0 i w.1 := by
    intro l
    induction l with
    | nil =>
      intro vs _ r
      cases r
      exact ⟨[], rfl, rfl, fun w hw => nomatch hw⟩
    | cons d l ih =>
      intro vs hk r
      cases r with
      | cons r rs =>
        rename_i v vs
        rw [List.all_cons, Bool.and_eq_true] at hk
        obtain ⟨ws, h1, h2, h3⟩ := ih hk.2 rs
        exact ⟨(d, (v, klen0 i d)) :: ws, by rw [List.map_cons, h1], by rw [List.map_cons, h2], List.forall_mem_cons.mpr ⟨⟨r, klen_rel r hk.1, rfl⟩, h3⟩⟩
  obtain ⟨ws, rfl, rfl, h3⟩ := key hk r
  refine ⟨ws.map Prod.snd, by rw [List.map_map]; rfl, fun z hz => ?_, ?_⟩
  · obtain ⟨w, hw, rfl⟩ := List.mem_map.mp hz
    exact (h3 w hw).2.1
  · have e1 : sklL i (ws.map Prod.fst) = (ws.mergeSort fun a b => decide (a.2.2 ≤ b.2.2)).map Prod.fst := by
      unfold sklL
      refine (List.map_mergeSort fun a ha b hb => ?_).symm
      rw [(h3 a ha).2.2, (h3 b hb).2.2]
    have e2 : LamX.zsort (ws.map Prod.snd) = (ws.mergeSort fun a b => decide (a.2.2 ≤ b.2.2)).map Prod.snd := by
      unfold LamX.zsort
      exact (List.map_mergeSort (r := fun a b : D × (V × Nat) => decide (a.2.2 ≤ b.2.2)) (s := fun a b : V × Nat => decide (a.2 ≤ b.2)) (f := Prod.snd) fun a ha b hb => rfl).symm
    rw [e1, e2, List.map_map]
    exact rds_of fun w hw => (h3 w (List.mem_mergeSort.mp hw)).1
end Mn
namespace Mn
open PySem PySem.Spec PyProof.Rows L2
def D.beq : D → D → Bool
  | .non, .non => true
  | .bl a, .bl b => a == b
  | .int a, .int b => decide (a = b)
  | .str a, .str b => decide (a = b)
  | .tup a, .tup b => beqs a b
  | _, _ => false
where beqs : List D → List D → Bool
  | [], [] => true
  | x :: xs, y :: ys => x.beq y && beqs xs ys
  | _, _ => false
structure Fe where
  x : Str
  f : Nat
  ar : Nat
  kw : Option (Str × D)
structure Mtk where
  k : Nat
  m : Str
  f : Nat
  ar : Nat
  n1 : Str
  n2 : Str
  n3 : Str
  d : D
structure Cxt where
  N : List Str
  sc : Scope
  blk : Bool
  fns : List Fe
  flds : List (Nat × Str)
  mts : List (Nat × Str × Nat × Nat)
  mks : List (Str × Nat × Nat × Nat)
  csts : List (Str × D)
  gds : List (Str × List (Str × Int))
  free : List Str
  excs : List (Str × Nat)
  tld : Option (Str × List (Nat × Str))
  lamt : Bool
  mtk : List Mtk
  lens : List (Nat × Nat)
def visB (sc : Scope) (x : Str) : Bool := match sc.names.lookup x with
  | some .local => true | some .cell => true | some .free => true | _ => false
def locB (sc : Scope) (x : Str) : Bool := match sc.names.lookup x with
  | some .local => true | some .cell => true | _ => false
def glB (sc : Scope) (x : Str) : Bool := match sc.names.lookup x with
  | some .globalImplicit => true | _ => false
def okN (x : Str) : Bool := !(x == ("__debug__" : Str)) && !(x == ("__classdict__" : Str)) && !decide (x = ("__name__" : Str))
def Cxt.bltn (c : Cxt) (x : Str) (b : Str) : Bool := decide (x = b) && glB c.sc x && c.free.contains x && okN x
def cstB : D → Const → Bool
  | .non, .none => true
  | .bl a, .bool b => a == b
  | .int a, .int b => decide (a = b)
  | .str a, .str b => decide (a = b)
  | _, _ => false
def starred : Expr → Bool
  | .Starred _ _ => true
  | _ => false
def isSlice : Expr → Bool
  | .Slice _ _ _ _ => true
  | _ => false
def tyB (c : Cxt) (t : Ty) (x : Expr) : Bool := match t, x with
  | .int, .Name x _ => c.bltn x "int"
  | .bool, .Name x _ => c.bltn x "bool"
  | .str, .Name x _ => c.bltn x "str"
  | .tuple, .Name x _ => c.bltn x "tuple"
  | .list, .Name x _ => c.bltn x "list"
  | .tl, .Tuple [.Name x _, .Name y _] _ _ => c.bltn x "tuple" && c.bltn y "list"
  | _, _ => false
def tOk : E → Bool
  | .ite _ _ _ => false
  | .orv _ _ => false
  | .lk _ => false
  | .lenO _ => false
  | .and a b => tOk a && tOk b
  | .or a b => tOk a && tOk b
  | .not a => tOk a
  | _ => true
def isCall : Expr → Bool
  | .Call _ _ _ _ => true | _ => false
def isComp : Expr → Bool
  | .ListComp _ _ _ _ => true | .SetComp _ _ _ _ => true | .DictComp _ _ _ _ _ => true | _ => false
def isSet : Expr → Bool
  | .Set _ _ _ => true | _ => false
def isTup : Expr → Bool
  | .Tuple _ _ _ => true | _ => false
mutual
def chkTg (c : Cxt) : Tg → Expr → Bool
  | .nm i, x => (match x with
    | .Name x _ => decide (c.N[i]? = some x) && locB c.sc x && (!c.blk || (match c.sc.names.lookup x with | some .local => true | _ => false))
    | _ => false)
  | .tp ts, x => (match x with
    | .Tuple xs _ _ => chkTgs c ts xs
    | _ => false)
def chkTgs (c : Cxt) : Tgs → List Expr → Bool
  | .nil, xs => xs.isEmpty
  | .cons t ts, xs => (match xs with
    | x :: xs => chkTg c t x && chkTgs c ts xs
    | [] => false)
end
mutual
def Tg.slots : Tg → List Nat
  | .nm i => [i]
  | .tp ts => ts.slots
def Tgs.slots : Tgs → List Nat
  | .nil => []
  | .cons t ts => t.slots ++ ts.slots
end
def ownP (N : List Str) (own : List Nat) : List (Str × Nat) := own.map fun i => (N.getD i "", i)
def inBlk (c : Cxt) (scope : Scope) : Cxt := { c with sc := relS scope c.sc, blk := true, tld := none, lamt := false }
def lowF (p : Fe) : Fe := { p with f := p.f + 1000000 }
def inLam (c : Cxt) (scope : Scope) : Cxt := { c with sc := scope, blk := true, tld := none, lamt := false, fns := c.fns.map lowF, mts := c.mts.map (fun p => (p.1, p.2.1, p.2.2.1 + 1000000, p.2.2.2)), mks := [], excs := [], mtk := [], lens := [] }
def noArgs : Arguments → Bool
  | ⟨[], [], none, [], [], none, []⟩ => true
  | _ => false
def bmT : Bm → String × String × String
  | .append => ("list", "append", "list.append") | .pop => ("list", "pop", "list.pop") | .popAt => ("list", "pop", "list.pop") | .insert => ("list", "insert", "list.insert")
  | .remove => ("list", "remove", "list.remove") | .index => ("list", "index", "list.index") | .get1 => ("dict", "get", "dict.get") | .get2 => ("dict", "get", "dict.get")
  | .remd => ("list", "remove", "list.remove")
  | .dpop => ("dict", "pop", "dict.pop") | .bitlen => ("int", "bit_length", "int.bit_length")
def chkK (c : Cxt) : Sum Key Nat → Expr → Bool
  | .inl k, .Constant z _ _ => cstB (keyD k) z
  | .inr i, .Name x _ => decide (c.N[i]? = some x) && visB c.sc x && okN x
  | _, _ => false
def chkKs (c : Cxt) : List (Sum Key Nat) → List (Option Expr) → Bool
  | [], [] => true
  | k :: r, some x :: q => chkK c k x && chkKs c r q
  | _, _ => false
mutual
def chkE : E → Cxt → Expr → Bool
  | .bad, _, _ => true
  | .no, _, _ => false
  | .v i, c, x => (match x with
    | .Name x _ => decide (c.N[i]? = some x) && visB c.sc x && okN x
    | _ => false)
  | .cst d, c, x => (match x with
    | .Constant k _ _ => cstB d k
    | .Name x _ => glB c.sc x && okN x && c.csts.any fun p => decide (p.1 = x) && p.2.beq d
    | _ => false)
  | .and a b, c, x => (match x with
    | .BoolOp .And (x :: y :: r) pos => chkE a c x && (match r with
      | [] => chkE b c y
      | z :: r => chkE b c (.BoolOp .And (y :: z :: r) pos))
    | _ => false)
  | .or a b, c, x => (match x with
    | .BoolOp .Or (x :: y :: r) pos => chkE a c x && (match r with
      | [] => chkE b c y
      | z :: r => chkE b c (.BoolOp .Or (y :: z :: r) pos))
    | _ => false)
  | .not a, c, x => (match x with
    | .UnaryOp .Not x _ => chkE a c x
    | _ => false)
  | .ite t a b, c, x => (match x with
    | .IfExp x y z _ => chkE t c x && tOk t && chkE a c y && chkE b c z
    | _ => false)
  | .bin op a b, c, x => (match x with
    | .BinOp x op' y _ => decide (op = op') && chkE a c x && chkE b c y
    | _ => false)
  | .neg a, c, x => (match x with
    | .UnaryOp .USub x _ => chkE a c x
    | _ => false)
  | .cmp op a b, c, x => (match x with
    | .Compare x [op'] [y] _ => decide (op = op') && chkE a c x && chkE b c y && !behindInMarks op y
    | _ => false)
  | .chn op op2 a b d, c, x => (match x with
    | .Compare x [o1, o2] [y, z] _ => decide (op = o1) && decide (op2 = o2) && chkE a c x && chkE b c y && chkE d c z && !behindInMarks op y && !behindInMarks op2 z
    | _ => false)
  | .ix a i, c, x => (match x with
    | .Subscript x y _ => chkE a c x && chkE i c y && !isSlice y
    | _ => false)
  | .sl a lo hi, c, x => (match x with
    | .Subscript x (.Slice l h none _) _ => chkE a c x && (match l with
      | none => (match lo with | .no => true | _ => false)
      | some l => chkE lo c l) && (match h with
      | none => (match hi with | .no => true | _ => false)
      | some h => chkE hi c h)
    | _ => false)
  | .skl i e, c, x => (match x with
    | .Call (.Name y _) [a] [⟨some k, .Lambda params body scope _, _⟩] _ => c.lamt && c.bltn y "sorted" && decide (k = "key") && c.free.contains "len" && chkE e c a && !starred a && keyB i params body scope
    | _ => false)
  | .rev a, c, x => (match x with
    | .Subscript x (.Slice none none (some (.UnaryOp .USub (.Constant (.int k) _ _) _)) _) _ => decide (k = 1) && chkE a c x
    | _ => false)
  | .tup es, c, x => (match x with
    | .Tuple xs _ _ => chkEs es c xs
    | _ => false)
  | .lst es, c, x => (match x with
    | .List xs _ => chkEs es c xs
    | _ => false)
  | .dct ks vs, c, x => (match ks, vs with
    | .nil, .nil => (match x with
      | .Dict [] [] _ => true
      | _ => false)
    | _, _ => false)
  | .dsp ks vs, c, x => (match x with
    | .Dict keys values _ => chkKs c ks keys && chkEs vs c values && decide (keys.length ≤ 15) && decide (keys.length = values.length) && !keys.isEmpty
    | _ => false)
  | .call f es, c, x => (match x with
    | .Call (.Name x _) xs [] _ => glB c.sc x && okN x && chkEs es c xs && c.fns.any fun p => decide (p.x = x) && decide (p.f = f) && decide (p.ar = xs.length) && p.kw.isNone
    | _ => false)
  | .calld f es d, c, x => (match x with
    | .Call (.Name x _) (y :: xs) [] _ => glB c.sc x && okN x && chkEs es c (y :: xs) && c.fns.any fun p => decide (p.x = x) && decide (p.f = f) && decide (p.ar = xs.length + 2) && (match p.kw with | some q => q.2.beq d | none => false)
    | _ => false)
  | .callk f es k, c, x => (match x with
    | .Call (.Name x _) (y :: xs) [⟨some n, z, _⟩] _ => glB c.sc x && okN x && chkEs es c (y :: xs) && chkE k c z && c.fns.any fun p => decide (p.x = x) && decide (p.f = f) && decide (p.ar = xs.length + 2) && (match p.kw with | some q => decide (q.1 = n) | none => false)
    | _ => false)
  | .blt b es, c, x => (match b with
    | .len => (match x with
      | .Call (.Name x _) [y] [] _ => c.bltn x "len" && chkEs es c [y]
      | _ => false)
    | .isi t => (match x with
      | .Call (.Name x _) [y, z] [] _ => c.bltn x "isinstance" && chkEs es c [y] && tyB c t z
      | _ => false)
    | .max2 => (match x with
      | .Call (.Name x _) [y, z] [] _ => c.bltn x "max" && chkEs es c [y, z]
      | _ => false)
    | .min2 => (match x with
      | .Call (.Name x _) [y, z] [] _ => c.bltn x "min" && chkEs es c [y, z]
      | _ => false)
    | .list1 => (match x with
      | .Call (.Name x _) [y] [] _ => c.bltn x "list" && chkEs es c [y]
      | _ => false)
    | .tuple1 => (match x with
      | .Call (.Name x _) [y] [] _ => c.bltn x "tuple" && chkEs es c [y]
      | _ => false)
    | .int1 => (match x with
      | .Call (.Name x _) [y] [] _ => c.bltn x "int" && chkEs es c [y]
      | _ => false)
    | .dict1 => (match x with
      | .Call (.Name x _) [y] [] _ => c.bltn x "dict" && chkEs es c [y]
      | _ => false)
    | .sorted1 => (match x with
      | .Call (.Name x _) [y] [] _ => c.bltn x "sorted" && chkEs es c [y]
      | _ => false)
    | .min1 => (match x with
      | .Call (.Name x _) [y] [] _ => c.bltn x "min" && chkEs es c [y]
      | _ => false)
    | .max1 => (match x with
      | .Call (.Name x _) [y] [] _ => c.bltn x "max" && chkEs es c [y]
      | _ => false)
    | .sum1 => (match x with
      | .Call (.Name x _) [y] [] _ => c.bltn x "sum" && chkEs es c [y]
      | _ => false)
    | .any1 => (match x with
      | .Call (.Name x _) [y] [] _ => c.bltn x "any" && chkEs es c [y]
      | _ => false)
    | .all1 => (match x with
      | .Call (.Name x _) [y] [] _ => c.bltn x "all" && chkEs es c [y]
      | _ => false)
    | .maxd => (match x with
      | .Call (.Name x _) [y] [⟨some n, z, _⟩] _ => c.bltn x "max" && decide (n = "default") && chkEs es c [y, z]
      | _ => false)
    | .abs1 => (match x with
      | .Call (.Name x _) [y] [] _ => c.bltn x "abs" && chkEs es c [y]
      | _ => false)
    | .mind => (match x with
      | .Call (.Name x _) [y] [⟨some n, z, _⟩] _ => c.bltn x "min" && decide (n = "default") && chkEs es c [y, z]
      | _ => false)
    | .lset => (match x with
      | .Call (.Name x _) [.Call (.Name r _) [y] [] _] [] _ => c.bltn x "len" && c.bltn r "set" && chkEs es c [y]
      | _ => false)
    | .sset => (match x with
      | .Call (.Name x _) [.Call (.Name r _) [y] [] _] [] _ => c.bltn x "sorted" && c.bltn r "set" && chkEs es c [y]
      | _ => false)
    | .lrng => (match x with
      | .Call (.Name x _) [.Call (.Name r _) [y] [] _] [] _ => c.bltn x "list" && c.bltn r "range" && chkEs es c [y]
      | _ => false))
  | .bm m o es, c, x => (match x with
    | .Call (.Attribute y n p) xs [] q => decide (n = (bmT m).2.1) && chkE o c y && chkEs es c xs && !isCall y && (p.endLine == q.line) && decide (xs.length < 3)
    | _ => false)
  | .attr k o f, c, x => (match x with
    | .Attribute y n _ => decide (n = f) && chkE o c y && !isCall y && c.flds.any fun p => decide (p.1 = k) && decide (p.2 = f)
    | _ => false)
  | .meth k m f o es, c, x => (match x with
    | .Call (.Attribute y n ap) xs [] q => decide (n = m) && chkE o c y && chkEs es c xs && !isCall y && (ap.endLine == q.line) && decide (xs.length < 20) && c.mts.any fun p => decide (p.1 = k) && decide (p.2.1 = m) && decide (p.2.2.1 = f) && decide (p.2.2.2 = xs.length + 1)
    | _ => false)
  | .make k f es, c, x => (match x with
    | .Call (.Name n _) xs [] _ => glB c.sc n && okN n && chkEs es c xs && c.mks.any fun p => decide (p.1 = n) && decide (p.2.1 = k) && decide (p.2.2.1 = f) && decide (p.2.2.2 = xs.length + 1)
    | _ => false)
  | .lc own t it cd e, c, x => (match x with
    | .ListComp y [⟨tg, i, fs, 0⟩] scope _ => blkC c.N c.sc scope (ownP c.N own) && chkTg (inBlk c scope) t tg && t.slots.all (own.contains ·) && chkIt it c (isTup tg) i && !isSet i && chkE e (inBlk c scope) y && (match fs with
      | [] => (match cd with | .cst (.bl true) => true | _ => false)
      | [z] => chkE cd (inBlk c scope) z && tOk cd
      | _ => false)
    | _ => false)
  | .lc2 own t it own1 t1 it1 e, c, x => (match x with
    | .ListComp y [⟨tg, i, [], 0⟩, ⟨tg1, i1, [], 0⟩] scope _ => (blkC c.N c.sc scope (ownP c.N own) && chkTg (inBlk c scope) t tg && t.slots.all (own.contains ·)) && (chkIt it c (isTup tg) i && !isSet i) && chkE e (inBlk c scope) y && ((chkTg (inBlk c scope) t1 tg1 && t1.slots.all (own1.contains ·) && own1.all (own.contains ·)) && (chkIt it1 (inBlk c scope) (isTup tg1) i1 && !isSet i1))
    | _ => false)
  | .dc own t it k e, c, x => (match x with
    | .DictComp z y [⟨tg, i, [], 0⟩] scope _ => blkC c.N c.sc scope (ownP c.N own) && chkTg (inBlk c scope) t tg && t.slots.all (own.contains ·) && chkIt it c (isTup tg) i && !isSet i && chkE k (inBlk c scope) z && chkE e (inBlk c scope) y
    | _ => false)
  | .orv a b, c, x => (match x with
    | .BoolOp .Or [x, y] _ => chkE a c x && chkE b c y
    | _ => false)
  | .ind neg a b, c, x => (match x with
    | .Compare x [op'] [y] _ => decide ((if neg then CmpOp.NotIn else CmpOp.In) = op') && chkE a c x && chkE b c y && !behindInMarks op' y
    | _ => false)
  | .lk e, c, x => !isComp x && chkE e c x
  | .nild a b, c, x => (match x with
    | .Compare x [op] [y] _ => decide (op = CmpOp.Eq) && chkE a c x && chkE b c y && !behindInMarks op y
    | _ => false)
  | .lenO e, c, x => (match e with
    | .meth k m f o .nil => (match x with
      | .Call (.Name n _) [y] [] _ => decide (m = "__len__") && c.bltn n "len" && !starred y && chkE o c y && c.lens.any fun p => decide (p.1 = k) && decide (p.2 = f)
      | _ => false)
    | _ => false)
  | .inR neg e a b, c, x => (match x with
    | .Compare x [op] [w] _ => !behindInMarks op w && (match w with
      | .Call (.Name r _) [y, z] [] _ => decide (op = if neg then .NotIn else .In) && chkE e c x && c.bltn r "range" && chkE a c y && chkE b c z && !starred y && !starred z
      | _ => false)
    | _ => false)
  | .methk k m f o es d ks, c, x => (match x with
    | .Call (.Attribute y n ap) (z :: xs) kws q => decide (n = m) && chkE o c y && chkEs es c (z :: xs) && !isCall y && (ap.endLine == q.line) && decide (xs.length + kws.length < 15) && chkEs ks c (kws.map fun w => w.value) && c.mtk.any fun p => decide (p.k = k) && decide (p.m = m) && decide (p.f = f) && decide (p.ar = xs.length + 2) && (match d with
      | some d => p.d.beq d && decide (kws.map (fun w => w.arg) = [some p.n1, some p.n3])
      | none => decide (kws.map (fun w => w.arg) = [some p.n1, some p.n2, some p.n3]))
    | _ => false)
  | .gix g kvs i, c, x => (match x with
    | .Subscript (.Name y _) z _ => decide (y = g) && glB c.sc y && okN y && (c.gds.any fun p => decide (p.1 = g) && decide (p.2 = kvs)) && chkE i c z && !isSlice z
    | _ => false)
  | .dictF e, c, x => (match x with
    | .Call (.Name x _) [y] [] _ => c.bltn x "dict" && chkE e c y && !starred y
    | _ => false)
  | .ixF o k, c, x => (match x with
    | .Subscript x y _ => chkE o c x && chkE k c y && !isSlice y
    | _ => false)
  | .minF o, c, x => (match x with
    | .Call (.Name x _) [.Call (.Attribute y n ap) [] [] mp] [] _ => c.bltn x "min" && decide (n = "values") && chkE o c y && !isCall y && (ap.endLine == mp.line)
    | _ => false)
  | .dctP, _, x => (match x with
    | .Dict [] [] _ => true
    | _ => false)
  | .ixP o a b, c, x => (match x with
    | .Subscript x (.Tuple [y, z] _ _) _ => chkE o c x && chkE a c y && !starred y && chkE b c z && !starred z
    | _ => false)
  | .inP neg a b o, c, x => (match x with
    | .Compare (.Tuple [y, z] _ _) [op'] [x] _ => decide ((if neg then CmpOp.NotIn else CmpOp.In) = op') && chkE a c y && !starred y && chkE b c z && !starred z && chkE o c x && !behindInMarks op' x
    | _ => false)
  | .told ws e, c, x => (match x with
    | .Call (.Name y _) [.Lambda params body scope _] [] _ => (match c.tld with
      | some q => decide (q.1 = y) && decide (q.2 = ws) && okN y && glB c.sc y && noArgs params && LamX.lamSB c.sc scope && chkE e (inLam c scope) body
      | none => false)
    | _ => false)
def chkEs : Es → Cxt → List Expr → Bool
  | .nil, _, xs => xs.isEmpty
  | .cons e es, c, xs => (match xs with
    | x :: xs => chkE e c x && !starred x && chkEs es c xs
    | [] => false)
def chkIt : It → Cxt → Bool → Expr → Bool
  | .seq e, c, _, x => chkE e c x
  | .rng a b, c, _, x => (match x with
    | .Call (.Name r _) [y] [] _ => c.bltn r "range" && (match a with | .cst (.int 0) => true | _ => false) && chkE b c y && !starred y
    | .Call (.Name r _) [y, z] [] _ => c.bltn r "range" && chkE a c y && !starred y && chkE b c z && !starred z
    | _ => false)
  | .rngd a b, c, _, x => (match x with
    | .Call (.Name r _) [y, z, .UnaryOp .USub (.Constant (.int k) _ _) _] [] _ => c.bltn r "range" && decide (k = 1) && chkE a c y && !starred y && chkE b c z && !starred z
    | _ => false)
  | .rng2 a b, c, _, x => (match x with
    | .Call (.Name r _) [y, z, .Constant (.int k) _ _] [] _ => c.bltn r "range" && decide (k = 2) && chkE a c y && !starred y && chkE b c z && !starred z
    | _ => false)
  | .enum e, c, tp, x => (match x with
    | .Call (.Name r _) [y] [] _ => c.bltn r "enumerate" && tp && chkE e c y && !starred y
    | _ => false)
  | .vals e, c, _, x => (match x with
    | .Call (.Attribute y n ap) [] [] q => decide (n = "values") && chkE e c y && !isCall y && (ap.endLine == q.line)
    | _ => false)
  | .keys e, c, _, x => chkE e c x
  | .chars e, c, _, x => chkE e c x
end
def spOf (K : Fg) (at_ : Ca) (F : Sem) (f ar : Nat) : Sp := fun vs H Q E => ∃ cl : Cl, cl.at_ = at_ ∧ cl.E = E ∧ ∃ m S ds, RS K cl m H S ∧ RDs K m H ds vs ∧ vs.length = ar ∧ F f ds S (up K cl m H Q) (upX K cl)
structure FnAt (cl : Ca) (F : Sem) (X : Cx) (x : Str) (f ar : Nat) (kw : Option (Str × D)) : Prop where
  ex : ∃ k fa fd ps, FnOk X.prog X.w X.K X.mg X.base (L2.CX X.prog X.w) k fa fd ps (spOf X.K cl F f ar) ∧ Room k X.A ∧ X.mg x = some (.ref fa) ∧ PySem.W.keepIn X.K (.ref fa) = true ∧
    (match kw with
    | none => Binds X.K fd ps []
    | some q => (∃ dv ds, Vals [dv] ds ∧ Binds X.K fd ps ds ∧ ∀ m H, RD X.K m H q.2 dv) ∧ KBn X.K fd ps (ar - 1) [q.1] (fun us ws => us ++ ws) (fun vs zs => vs ++ zs))
structure MtAt (cl : Ca) (F : Sem) (X : Cx) (c : Nat) (m : Str) (f ar : Nat) : Prop where
  ex : ∃ C k g fd ps, cl c = some C ∧ Cls X.K C ∧ Meth X.K C m g ∧ FnOk X.prog X.w X.K X.mg X.base (L2.CX X.prog X.w) k g fd ps (spOf X.K cl F f ar) ∧ Room k X.A ∧ Binds X.K fd ps []
def arr3 {α : Type} (mv ws : List α) : List α := match mv, ws with
  | [d], [a, b] => [a, d, b]
  | _, ws => ws
structure MtkAt (cl : Ca) (F : Sem) (X : Cx) (p : Mtk) : Prop where
  ex : ∃ C k g fd ps dv gg gh, cl p.k = some C ∧ Cls X.K C ∧ Meth X.K C p.m g ∧ FnOk X.prog X.w X.K X.mg X.base (L2.CX X.prog X.w) k g fd ps (spOf X.K cl F p.f (p.ar + 3)) ∧ Room k X.A ∧ PySem.W.keepIn X.K (.ref g) = true ∧ (∀ m H, RD X.K m H p.d dv) ∧
    KBn X.K fd ps p.ar [p.n1, p.n3] gg (fun vs zs => vs ++ arr3 [dv] zs) ∧ KBn X.K fd ps p.ar [p.n1, p.n2, p.n3] gh (fun vs zs => vs ++ zs)
structure LenAt (cl : Ca) (F : Sem) (X : Cx) (k f : Nat) : Prop where
  ex : ∃ C kk g fd ps, cl k = some C ∧ Cls X.K C ∧ Meth X.K C "__len__" g ∧ FnOk X.prog X.w X.K X.mg X.base (L2.CX X.prog X.w) kk g fd ps (spOf X.K cl F f 1) ∧ Room (kk + 1) X.A ∧ Binds X.K fd ps []
structure MkAt (cl : Ca) (F : Sem) (X : Cx) (x : Str) (c f ar : Nat) : Prop where
  ex : ∃ C k g fd ps, cl c = some C ∧ Mk X.K C g ∧ X.mg x = some (.ref C) ∧ FnOk X.prog X.w X.K X.mg X.base (L2.CX X.prog X.w) k g fd ps (spOf X.K cl F f ar) ∧ Room (k + 1) X.A ∧ Binds X.K fd ps []
def excB (K : Fg) (C : Addr) : Bool := PySem.W.excIn K C [.type "ValueError", .type "Exception", .type "BaseException", .type "object"] "ValueError.__new__" && PySem.W.keepIn K (.ref C) && decide (PySem.W.subIn K (.ref C) (.type "BaseException") = some true) && decide (PySem.W.typeIn K (.ref C) = some (.type "type"))
def TTel (cl : Ca) (ws : List (Nat × Str)) : (L2.XK → Hp → VK → Prop) → Hp → VK → Prop := fun tl H Q =>
  tl (fun cls d H' => ∃ k C w, cl k = some C ∧ cls = .ref C ∧ d = none ∧ ws.lookup k = some w ∧ ∀ H2, NewH H' H2 → Q (.str w) H2) H fun v H' => ∀ p, H' p = none → Q (.ref p) (upd H' p (.tup [.str "told", v]))
structure TldAt (cl : Ca) (F : Sem) (X : Cx) (c : Cxt) (y : Str) (ws : List (Nat × Str)) : Prop where
  ex : ∃ (k : Nat) (a : Str) (g c0 P : Addr) (pg : Arguments) (bg : List Stmt) (sg : Scope) (dV kV doc pm cdv ct oc : Value) (an od : Option Addr) (osl : Array (Option Value)) (Ng : List Str),
    X.mg y = some (.ref g) ∧ PySem.W.keepIn X.K (.ref g) = true ∧ X.K.lookup g = some ⟨oc, od, .func (PySem.W.fnOf y y pg bg sg dV kV doc pm an cdv ct), osl⟩ ∧ PySem.W.codeIn X.K cdv y = true ∧
    Binds X.K (PySem.W.fnOf y y pg bg sg dV kV doc pm an cdv ct) [a] [] ∧ FnScope Ng [a] sg ∧ Ng[0]? = some a ∧ Vis sg a ∧ LamX.GivesTo X Ng y sg g cdv bg a (X.env.qual ++ "<lambda>") (TTel cl ws) ∧
    LamX.TabB X.base X.mg c0 P ∧ X.env.code = .ref c0 ∧ (P, X.env.qual ++ "<lambda>") ∈ cl.T ∧ (∀ p ∈ cl.T, p.1 = P → p.2 = X.env.qual ++ "<lambda>") ∧ Room (k + 2) X.A ∧ (a == ("__debug__" : Str)) = false ∧ (a == ("__classdict__" : Str)) = false ∧ 40 ≤ k ∧
    ∀ (A : Around) (outer : List PySem.Env) (s : Shared) (H : Hp) (E : L2.XK) (scope : Scope) (f c' : Addr), Room k (A.deeper (LamX.lamEnv X scope s.heap.objs.size f c')) →
      (∀ p ∈ c.fns, FnAt cl F (LamX.lamCx X A outer s H E scope f c') p.x (p.f + 1000000) p.ar p.kw) ∧ ∀ j m f1 ar, (j, m, f1, ar) ∈ c.mts → MtAt cl F (LamX.lamCx X A outer s H E scope f c') j m (f1 + 1000000) ar
def LamAt (T : List (Addr × Str)) (X : Cx) : Prop := ∃ c0 P, LamX.TabB X.base X.mg c0 P ∧ X.env.code = .ref c0 ∧ (P, X.env.qual ++ "<lambda>") ∈ T ∧ (∀ p ∈ T, p.1 = P → p.2 = X.env.qual ++ "<lambda>") ∧ Room 1 X.A
structure XOk (c : Cxt) (cl : Cl) (F : Sem) (X : Cx) : Prop where
  N : X.N = c.N
  nd : X.N.Nodup
  sc : X.env.scope = c.sc
  calm : X.calm = true
  units : X.A.units + 650 < cLine
  tg : c.blk = false → ∀ x, X.fn x = true
  fns : ∀ p ∈ c.fns, FnAt cl.at_ F X p.x p.f p.ar p.kw
  flds : ∀ k f, (k, f) ∈ c.flds → ∃ C, cl k = some C ∧ Cls X.K C ∧ NoAttr X.K C f
  mts : ∀ k m f ar, (k, m, f, ar) ∈ c.mts → MtAt cl.at_ F X k m f ar
  mks : ∀ x k f ar, (x, k, f, ar) ∈ c.mks → MkAt cl.at_ F X x k f ar
  csts : ∀ x d, (x, d) ∈ c.csts → ∃ u v, X.mg x = some u ∧ RelV v u ∧ ∀ m H, RD X.K m H d v
  gds : ∀ x kvs, (x, kvs) ∈ c.gds → ∃ p, X.mg x = some (.ref p) ∧ ∀ z i, kvs.lookup z = some i → KDct X.K X.w p z (.int i)
  free : ∀ x ∈ c.free, X.mg x = none
  pas : Passes (L2.CX X.prog X.w) X cl.E
  excs : ∀ x k, (x, k) ∈ c.excs → ∃ C, cl k = some C ∧ X.mg x = some (.ref C) ∧ excB X.K C = true
  tld : ∀ y ws, c.tld = some (y, ws) → TldAt cl.at_ F X c y ws
  lamt : c.lamt = true → LamAt cl.at_.T X
  mtk : ∀ p ∈ c.mtk, MtkAt cl.at_ F X p
  lens : ∀ k f, (k, f) ∈ c.lens → LenAt cl.at_ F X k f
def LE (K : Fg) (cl : Cl) (t : Env → Store → DK → Prop) : TE := fun σ H Q => ∃ m ρ S, RS K cl m H S ∧ RE K m H ρ σ ∧ t ρ S (up K cl m H Q)
abbrev lE (K : Fg) (cl : Cl) (F : Sem) (e : E) : TE := LE K cl fun ρ S Q => wpE F e ρ S Q (upX K cl)
def lA (K : Fg) (cl : Cl) (F : Sem) (es : Es) : TA := fun σ H Q => ∃ m ρ S, RS K cl m H S ∧ RE K m H ρ σ ∧ wpEs F es ρ S (fun ds S' => ∀ m' H' vs, Le m H m' H' → RS K cl m' H' S' → RDs K m' H' ds vs → Q vs H') (upX K cl)
theorem PE.mono {X : Cx} {e : Expr} {t t' : TE} (h : PE X e t) (k : ∀ σ H Q, t' σ H Q → t σ H Q) : PE X e t' := ⟨fun pins s σ H Q I q => h.run pins s σ H Q I (k σ H Q q)⟩
theorem PT.mono {X : Cx} {e : Expr} {t t' : TT} (h : PT X e t) (k : ∀ σ H Q, t' σ H Q → t σ H Q) : PT X e t' := ⟨fun pins s σ H Q I q => h.run pins s σ H Q I (k σ H Q q)⟩
theorem PW.mono {X : Cx} {e : Expr} {t t' : TT} (h : PW X e t) (k : ∀ σ H Q, t' σ H Q → t σ H Q) : PW X e t' := ⟨fun wh pins s σ H Q I q => h.run wh pins s σ H Q I (k σ H Q q)⟩
theorem PA.mono {X : Cx} {e : List Expr} {t t' : TA} (h : PA X e t) (k : ∀ σ H Q, t' σ H Q → t σ H Q) : PA X e t' := ⟨fun pos pins s σ H Q I q => h.run pos pins s σ H Q I (k σ H Q q)⟩
theorem PO.mono {X : Cx} {e : Option Expr} {t t' : TO} (h : PO X e t) (k : ∀ σ H Q, t' σ H Q → t σ H Q) : PO X e t' := ⟨fun pins s σ H Q I q => h.run pins s σ H Q I (k σ H Q q)⟩
theorem PK.mono {X : Cx} {e : List Keyword} {t t' : TA} (h : PK X e t) (k : ∀ σ H Q, t' σ H Q → t σ H Q) : PK X e t' := ⟨fun pos pins s σ H Q I q => h.run pos pins s σ H Q I (k σ H Q q)⟩
theorem PE.bad {X : Cx} {e : Expr} {t : TE} (h : ∀ σ H Q, ¬ t σ H Q) : PE X e t := ⟨fun pins s σ H Q I q => (h σ H Q q).elim⟩
theorem PT.bad {X : Cx} {e : Expr} {t : TT} (h : ∀ σ H Q, ¬ t σ H Q) : PT X e t := ⟨fun pins s σ H Q I q => (h σ H Q q).elim⟩
section
variable {K : Fg} {cl : Cl} {F : Sem} {m m1 : List Addr} {H H1 : Hp} {S : Store} {Q : VK}
theorem up_le (x : Le m H m1 H1) {d : D} (h : up K cl m H Q d S) : up K cl m1 H1 Q d S := fun m' H' v le => h m' H' v (x.trans le)
theorem le_step (hF : SemMono F) (e : E) {σ : L2.St} {ρ : Env} {P : DK} (R : RS K cl m H S) (re : RE K m H ρ σ) (h : wpE F e ρ S P (upX K cl))
    (k : ∀ d S' m' H' v, P d S' → Le m H m' H' → RS K cl m' H' S' → RD K m' H' d v → RE K m' H' ρ σ → Q v H') : lE K cl F e σ H Q :=
  ⟨m, ρ, S, R, re, wpE_mono hF e (fun d S' q m' H' v le R' rd => k d S' m' H' v q le R' rd (re.mono le)) (fun _ _ z => z) h⟩
theorem la_step (hF : SemMono F) (es : Es) {σ : L2.St} {ρ : Env} {P : List D → Store → Prop} {Q : List V → Hp → Prop} (R : RS K cl m H S) (re : RE K m H ρ σ) (h : wpEs F es ρ S P (upX K cl))
    (k : ∀ ds S' m' H' vs, P ds S' → Le m H m' H' → RS K cl m' H' S' → RDs K m' H' ds vs → RE K m' H' ρ σ → Q vs H') : lA K cl F es σ H Q :=
  ⟨m, ρ, S, R, re, wpEs_mono hF es (fun d S' q m' H' v le R' rd => k d S' m' H' v q le R' rd (re.mono le)) (fun _ _ z => z) h⟩
end
def tyN (S : Store) : D → Option String
  | .non => some "NoneType" | .bl _ => some "bool" | .int _ => some "int" | .str _ => some "str" | .tup _ => some "tuple" | .fl _ => some "list"
  | .ref n => (lst? S n).map fun _ => "list"
theorem RD.ty {K : Fg} {cl : Cl} {m : List Addr} {H : Hp} {S : Store} {d : D} {v : V} {n : String} (R : RS K cl m H S) (r : RD K m H d v) (e : tyN S d = some n) : TyX K H v (.type n) := by
  cases r with
  | non => cases e; exact .base .non
  | bl b => cases e; exact .base (.bl b)
  | int b => cases e; exact .base (.int b)
  | str b => cases e; exact .base (.str b)
  | tup h q =>
    cases e
    rcases h with (h | ⟨o, h⟩) | ⟨o, its, k, h1, h2, _⟩
    · exact .base (.tup h)
    · exact .fTuple h
    · exact .kTuple h1 h2
  | fl h q =>
    cases e
    rcases h with ⟨o, h⟩ | ⟨o, its, k, h1, h2, _⟩
    · exact .base (.frz h)
    · exact .kList h1 h2
  | @ref i a h =>
    have e2 : (lst? S i).map (fun _ => "list") = some n := e
    cases q : lst? S i with
    | none => rw [q] at e2; cases e2
    | some l =>
      rw [q] at e2
      cases e2
      obtain ⟨vs, h1, _⟩ := R.at_ i a _ h (lst_some q)
      exact .base (.lst h1)
def Ty.names : Ty → List String
  | .int => ["int"] | .bool => ["bool"] | .str => ["str"] | .tuple => ["tuple"] | .list => ["list"] | .tl => ["tuple", "list"]
def anyTy (n : String) : List String → Option Bool
  | [] => some false
  | t :: r => match kitB n t with
    | some true => some true
    | some false => anyTy n r
    | none => none
theorem anyTy_int : anyTy "int" ["int"] = some true ∧ anyTy "bool" ["int"] = some true ∧ anyTy "NoneType" ["int"] = some false ∧ anyTy "str" ["int"] = some false ∧ anyTy "tuple" ["int"] = some false ∧ anyTy "list" ["int"] = some false := by decide +kernel
theorem anyTy_bool : anyTy "int" ["bool"] = some false ∧ anyTy "bool" ["bool"] = some true ∧ anyTy "NoneType" ["bool"] = some false ∧ anyTy "str" ["bool"] = some false ∧ anyTy "tuple" ["bool"] = some false ∧ anyTy "list" ["bool"] = some false := by decide +kernel
theorem anyTy_str : anyTy "int" ["str"] = some false ∧ anyTy "bool" ["str"] = some false ∧ anyTy "NoneType" ["str"] = some false ∧ anyTy "str" ["str"] = some true ∧ anyTy "tuple" ["str"] = some false ∧ anyTy "list" ["str"] = some false := by decide +kernel
theorem anyTy_tuple : anyTy "int" ["tuple"] = some false ∧ anyTy "bool" ["tuple"] = some false ∧ anyTy "NoneType" ["tuple"] = some false ∧ anyTy "str" ["tuple"] = some false ∧ anyTy "tuple" ["tuple"] = some true ∧ anyTy "list" ["tuple"] = some false := by decide +kernel
theorem anyTy_list : anyTy "int" ["list"] = some false ∧ anyTy "bool" ["list"] = some false ∧ anyTy "NoneType" ["list"] = some false ∧ anyTy "str" ["list"] = some false ∧ anyTy "tuple" ["list"] = some false ∧ anyTy "list" ["list"] = some true := by decide +kernel
theorem anyTy_tl : anyTy "int" ["tuple", "list"] = some false ∧ anyTy "bool" ["tuple", "list"] = some false ∧ anyTy "NoneType" ["tuple", "list"] = some false ∧ anyTy "str" ["tuple", "list"] = some false ∧ anyTy "tuple" ["tuple", "list"] = some true ∧ anyTy "list" ["tuple", "list"] = some true := by decide +kernel
theorem isTy_any {S : Store} {x : D} {t : Ty} {b : Bool} (h : isTy S x t = some b) : ∃ n, tyN S x = some n ∧ anyTy n t.names = some b := by
  obtain ⟨i1, i2, i3, i4, i5, i6⟩ := anyTy_int
  obtain ⟨b1, b2, b3, b4, b5, b6⟩ := anyTy_bool
  obtain ⟨s1, s2, s3, s4, s5, s6⟩ := anyTy_str
  obtain ⟨t1, t2, t3, t4, t5, t6⟩ := anyTy_tuple
  obtain ⟨l1, l2, l3, l4, l5, l6⟩ := anyTy_list
  obtain ⟨m1, m2, m3, m4, m5, m6⟩ := anyTy_tl
  cases x with
  | ref n =>
    cases q : lst? S n with
    | none => cases t <;> simp [isTy, isL, q] at h
    | some l => refine ⟨"list", by simp [tyN, q], ?_⟩; cases t <;> simp [isTy, isL, q] at h <;> subst h <;> assumption
  | _ => cases t <;> (simp [isTy, isL] at h; subst h; exact ⟨_, rfl, by assumption⟩)
theorem kitAny_of {K : Fg} {n : String} : ∀ {ts : List String} {b : Bool}, anyTy n ts = some b → PySem.W.kitAny K (.type n) (ts.map Value.type) = some b
  | [], _, h => h
  | t :: r, b, h => by
    unfold anyTy at h
    rw [List.map_cons]
    unfold PySem.W.kitAny
    cases e : kitB n t with
    | none => rw [e] at h; cases h
    | some c =>
      rw [e] at h
      rw [kit_ty (K := K) e]
      cases c with
      | true => exact h
      | false => exact kitAny_of h
theorem kitOne_of {K : Fg} {n t : String} {b : Bool} (h : anyTy n [t] = some b) : PySem.W.kitOne K (.type n) (.type t) = some b := by
  unfold anyTy at h
  cases e : kitB n t with
  | none => rw [e] at h; cases h
  | some c =>
    rw [e] at h
    rw [kit_ty (K := K) e]
    cases c with
    | true => exact h
    | false => exact h
section
variable {X : Cx} {cl : Cl}
theorem blt_len : CallR X (.builtin "len") (rBt X.K cl .len) := by
  intro pins s σ H xs us Q I r ⟨m, S, ds, R, rd, h⟩
  replace h : bLen ds S (up X.K cl m H Q) := h
  unfold bLen at h
  split at h
  · rename_i d
    split at h
    · rename_i n e
      cases rd with
      | cons r1 r2 =>
        cases r2
        have hl := lim_le
        have hq := up_here h.2 R (.int _)
        have hn := h.1
        cases r1 with
        | tup h1 q1 =>
          cases e
          exact call_len pins s σ H _ us Q I r ⟨_, _, rfl, .inr ⟨_, h1, q1.length⟩, hq⟩
        | fl h1 q1 =>
          cases e
          exact call_len pins s σ H _ us Q I r ⟨_, _, rfl, .inl ⟨_, h1.sq, q1.length⟩, hq⟩
        | str x =>
          cases e
          exact call_len pins s σ H _ us Q I r ⟨_, _, rfl, ⟨by omega, rfl⟩, hq⟩
        | @ref k a h1 =>
          unfold len? at e
          dsimp only at e
          split at e
          · rename_i l g
            cases e
            obtain ⟨vs, h2, q2⟩ := R.at_ k a _ h1 g
            exact call_len pins s σ H _ us Q I r ⟨_, _, rfl, .inl ⟨_, SqL.of h2, q2.length⟩, hq⟩
          · rename_i l g
            cases e
            obtain ⟨kvs, h2, q2⟩ := R.at_ k a _ h1 g
            rw [q2.length] at hq
            exact call_lenD pins s σ H _ us Q I r ⟨_, _, rfl, h2, hq⟩
          · rename_i l g
            cases e
            obtain ⟨o, kvs, h2, q2⟩ := R.at_ k a _ h1 g
            rw [q2.length] at hq
            obtain ⟨u, rfl, ru⟩ := vals1 r
            cases ru
            exact d_len I (.inr ⟨o, h2⟩) fun t s' I' => ⟨.int kvs.length, H, I', ⟨t, rfl⟩, hq⟩
          · cases e
        | _ => cases e
    · exact h.elim
  · exact h.elim
theorem blt_isi (t : Ty) (vt : V) (ut : Value) (hn : t.names = [match vt with | .ty n => n | _ => ""]) (hk : ClsV vt ut) (hv : ∃ n, vt = .ty n) {pins : List (Addr × Obj)} {s : Shared} {σ : L2.St} {H : Hp} {v : V} {us : List Value} {Q : VK} (I : Inv X pins σ H s) (r : Vals [v, vt] us)
    {m : List Addr} {S : Store} {d : D} (R : RS X.K cl m H S) (rd : RD X.K m H d v) (h : bIsi t [d] S (up X.K cl m H Q)) : wpAny (model X.prog X.w) X.A (call (.builtin "isinstance") us) (EP X pins σ Q) X.xe s := by
  unfold bIsi at h
  dsimp only at h
  split at h
  · rename_i b e
    obtain ⟨n, e1, e2⟩ := isTy_any e
    obtain ⟨k, rfl⟩ := hv
    cases hk
    rw [hn] at e2
    exact call_isi pins s σ H _ us Q I r ⟨v, .ty k, .type n, .type k, b, rfl, .ty k, rd.ty R e1, kitOne_of e2, up_here h R (.bl _)⟩
  · exact h.elim
theorem blt_max2 (hc : X.calm = true) : CallR X (.builtin "max") (rBt X.K cl .max2) := by
  intro pins s σ H xs us Q I r ⟨m, S, ds, R, rd, h⟩
  replace h : b2I imax ds S (up X.K cl m H Q) := h
  unfold b2I at h
  split at h
  · cases rd with
    | cons r1 r2 =>
      cases r2 with
      | cons r2 r3 =>
        cases r3; cases r1; cases r2
        exact call_max2 hc pins s σ H _ us Q I r ⟨_, _, rfl, up_here h R (.int _)⟩
  · exact h.elim
theorem blt_min2 (hc : X.calm = true) : CallR X (.builtin "min") (rBt X.K cl .min2) := by
  intro pins s σ H xs us Q I r ⟨m, S, ds, R, rd, h⟩
  replace h : b2I imin ds S (up X.K cl m H Q) := h
  unfold b2I at h
  split at h
  · cases rd with
    | cons r1 r2 =>
      cases r2 with
      | cons r2 r3 =>
        cases r3; cases r1; cases r2
        exact call_min2 hc pins s σ H _ us Q I r ⟨_, _, rfl, up_here h R (.int _)⟩
  · exact h.elim
end
end Mn
namespace Mn
open PySem PySem.Spec PyProof.Rows L2
theorem and3 {a b c : Bool} (h : (a && b && c) = true) : a = true ∧ b = true ∧ c = true := by
  rw [Bool.and_eq_true, Bool.and_eq_true] at h
  exact ⟨h.1.1, h.1.2, h.2⟩
theorem and2 {a b : Bool} (h : (a && b) = true) : a = true ∧ b = true := Bool.and_eq_true_iff.mp h
mutual
theorem D.beq_eq : ∀ {a b : D}, a.beq b = true → a = b
  | .non, b, h => by cases b <;> first | rfl | cases h
  | .bl x, b, h => by
    cases b <;> first | (cases h; done) | skip
    rw [show x = _ from eq_of_beq h]
  | .int x, b, h => by
    cases b <;> first | (cases h; done) | skip
    rw [show x = _ from of_decide_eq_true h]
  | .str x, b, h => by
    cases b <;> first | (cases h; done) | skip
    rw [show x = _ from of_decide_eq_true h]
  | .tup x, b, h => by
    cases b <;> first | (cases h; done) | skip
    rw [show x = _ from D.beqs_eq h]
  | .fl _, _, h => by cases h
  | .ref _, _, h => by cases h
theorem D.beqs_eq : ∀ {a b : List D}, D.beq.beqs a b = true → a = b
  | [], b, h => by cases b <;> first | rfl | cases h
  | x :: xs, b, h => by
    cases b with
    | nil => cases h
    | cons y ys =>
      obtain ⟨h1, h2⟩ := and2 h
      rw [D.beq_eq h1, D.beqs_eq h2]
end
theorem star_not {e : Expr} {es : List Expr} {env : PySem.Env} (h : starred e = false) : starEach (e :: es) env = (false, eval e env) :: starEach es env := by
  cases e <;> first | rfl | cases h
theorem star_any {env : PySem.Env} {pos : Pos} : ∀ {es : List Expr}, (∀ x ∈ es, starred x = false) → (backTo pos (starEach es env)).any (·.1) = false
  | [], _ => rfl
  | e :: es, h => by
    rw [star_not (h e List.mem_cons_self)]
    show (false || (backTo pos (starEach es env)).any (·.1)) = false
    rw [star_any fun x hx => h x (List.mem_cons_of_mem _ hx)]
    rfl
theorem chkEs_star {c : Cxt} : ∀ {es : Es} {xs : List Expr}, chkEs es c xs = true → ∀ x ∈ xs, starred x = false
  | .nil, xs, h => by
    cases xs with
    | nil => intro x hx; cases hx
    | cons _ _ => cases h
  | .cons e es, xs, h => by
    cases xs with
    | nil => cases h
    | cons y ys =>
      obtain ⟨h1, h2, h3⟩ := and3 (show (chkE e c y && !starred y && chkEs es c ys) = true from h)
      intro x hx
      rcases List.mem_cons.mp hx with rfl | hx
      · simpa using h2
      · exact chkEs_star h3 x hx
theorem chkEs_len {c : Cxt} : ∀ {es : Es} {xs : List Expr}, chkEs es c xs = true → es.len = xs.length
  | .nil, xs, h => by
    cases xs with
    | nil => rfl
    | cons _ _ => cases h
  | .cons e es, xs, h => by
    cases xs with
    | nil => cases h
    | cons y ys =>
      obtain ⟨h1, h2, h3⟩ := and3 (show (chkE e c y && !starred y && chkEs es c ys) = true from h)
      show es.len + 1 = ys.length + 1
      rw [chkEs_len h3]
theorem vis_of {sc : Scope} {x : Str} (h : visB sc x = true) : Vis sc x := by
  unfold visB at h
  split at h <;> first | exact .inl (by assumption) | exact .inr (.inl (by assumption)) | exact .inr (.inr (by assumption)) | cases h
theorem loc_of {sc : Scope} {x : Str} (h : locB sc x = true) : Loc sc x := by
  unfold locB at h
  split at h <;> first | exact .inl (by assumption) | exact .inr (by assumption) | cases h
theorem gl_of {sc : Scope} {x : Str} (h : glB sc x = true) : sc.names.lookup x = some .globalImplicit := by
  unfold glB at h
  split at h <;> first | assumption | cases h
theorem okN_of {x : Str} (h : okN x = true) : (x == ("__debug__" : Str)) = false ∧ (x == ("__classdict__" : Str)) = false ∧ x ≠ ("__name__" : Str) := by
  obtain ⟨h1, h2, h3⟩ := and3 h
  simp at h1 h2 h3
  exact ⟨by simpa using h1, by simpa using h2, h3⟩
theorem boot_isinstance : bootBuiltins "isinstance" = some (.builtin "isinstance") := by decide +kernel
theorem boot_max : bootBuiltins "max" = some (.builtin "max") := by decide +kernel
theorem boot_min : bootBuiltins "min" = some (.builtin "min") := by decide +kernel
theorem boot_intT : bootBuiltins "int" = some (.type "int") := by decide +kernel
theorem boot_boolT : bootBuiltins "bool" = some (.type "bool") := by decide +kernel
theorem boot_strT : bootBuiltins "str" = some (.type "str") := by decide +kernel
theorem boot_tupleT : bootBuiltins "tuple" = some (.type "tuple") := by decide +kernel
theorem boot_listT : bootBuiltins "list" = some (.type "list") := by decide +kernel
section
variable {c : Cxt} {cl : Cl} {F : Sem} {X : Cx}
theorem bltn_of (ok : XOk c cl F X) {x b : Str} (h : c.bltn x b = true) : x = b ∧ Gl X x ∧ X.mg x = none ∧ x ≠ ("__name__" : Str) ∧ (x == ("__debug__" : Str)) = false := by
  unfold Cxt.bltn at h
  obtain ⟨h123, h4⟩ := and2 h
  obtain ⟨h1, h2, h3⟩ := and3 h123
  refine ⟨of_decide_eq_true h1, ?_, ok.free x (by simpa using h3), (okN_of h4).2.2, (okN_of h4).1⟩
  show X.env.scope.names.lookup x = _
  rw [ok.sc]
  exact gl_of h2
theorem pe_tyN (ok : XOk c cl F X) {x : Str} {n : String} {pos : Pos} (h : c.bltn x n = true) (hv : bootBuiltins (n : Str) = some (.type n)) : PE X (.Name x pos) (tC (.ty n)) := by
  obtain ⟨e, h1, h2, h3, h4⟩ := bltn_of ok h
  subst e
  exact pe_bltn h1 h2 hv rfl h3 h4
theorem pe_isi1 (hF : SemMono F) (ok : XOk c cl F X) {x : Str} {n : String} {p p' pos : Pos} {y : Expr} {e : E} (t : Ty) (hn : t.names = [n]) (hx : c.bltn x "isinstance" = true) (hy : PE X y (lE X.K cl F e)) (sy : starred y = false) {z : Str} (hz : c.bltn z n = true) (hv : bootBuiltins (n : Str) = some (.type n)) :
    PE X (.Call (.Name x p) [y, .Name z p'] [] pos) (lE X.K cl F (.blt (.isi t) (.cons e .nil))) := by
  obtain ⟨ex, h1, h2, h3, h4⟩ := bltn_of ok hx
  subst ex
  have r : CallR X (.builtin "isinstance") (fun vs H Q => ∃ v m S d, vs = [v, .ty n] ∧ RS X.K cl m H S ∧ RD X.K m H d v ∧ bIsi t [d] S (up X.K cl m H Q)) := by
    intro pins s σ H xs us Q I rv ⟨v, m, S, d, e, R, rd, h⟩
    subst e
    exact blt_isi t (.ty n) (.type n) hn (.ty n) ⟨n, rfl⟩ I rv R rd h
  have pz := pe_tyN ok (pos := p') hz hv
  have sz : starred (.Name z p') = false := rfl
  refine PE.mono (pe_callB r h1 h2 boot_isinstance (pa_cons hy (pa_cons pz pa_nil (star_not sz)) (star_not sy)) h3 h4 (star_not sy) (star_any fun w hw => ?_)) fun σ H Q q => ?_
  · rcases List.mem_cons.mp hw with rfl | hw
    · exact sz
    · cases hw
  · obtain ⟨m, ρ, S, R, re, h⟩ := q
    refine le_step hF e R re h fun d S1 m1 H1 v q le R1 rd re1 => ?_
    have q2 : bt (.isi t) [d] S1 (up X.K cl m H Q) := q
    exact ⟨v, m1, S1, d, rfl, R1, rd, bt_mono (fun _ _ => up_le le) q2⟩
theorem pe_isi2 (hF : SemMono F) (ok : XOk c cl F X) {x : Str} {p p' p2 p3 pos : Pos} {k : Nat} {y : Expr} {e : E} (hx : c.bltn x "isinstance" = true) (hy : PE X y (lE X.K cl F e)) (sy : starred y = false) {z z2 : Str} (hz : c.bltn z "tuple" = true) (hz2 : c.bltn z2 "list" = true) :
    PE X (.Call (.Name x p) [y, .Tuple [.Name z p', .Name z2 p2] k p3] [] pos) (lE X.K cl F (.blt (.isi .tl) (.cons e .nil))) := by
  obtain ⟨ex, h1, h2, h3, h4⟩ := bltn_of ok hx
  subst ex
  have r : CallR X (.builtin "isinstance") (fun vs H Q => ∃ v tp m S d, vs = [v, .ref tp] ∧ H tp = some (.tup [.ty "tuple", .ty "list"]) ∧ RS X.K cl m H S ∧ RD X.K m H d v ∧ bIsi .tl [d] S (up X.K cl m H Q)) := by
    intro pins s σ H xs us Q I rv ⟨v, tp, m, S, d, e, ht, R, rd, h⟩
    subst e
    unfold bIsi at h
    dsimp only at h
    split at h
    · rename_i b e
      obtain ⟨n, e1, e2⟩ := isTy_any e
      exact call_isiT pins s σ H _ us Q I rv ⟨v, tp, [.ty "tuple", .ty "list"], .type n, [.type "tuple", .type "list"], b, rfl, ht, .cons (.ty _) (.cons (.ty _) .nil), rd.ty R e1, kitAny_of e2, up_here h R (.bl _)⟩
    · exact h.elim
  have pz := pe_tyN ok (pos := p') hz boot_tupleT
  have pz2 := pe_tyN ok (pos := p2) hz2 boot_listT
  have s1 : starred (.Name z p') = false := rfl
  have s2 : starred (.Name z2 p2) = false := rfl
  have pt : PE X (.Tuple [.Name z p', .Name z2 p2] k p3) _ := pe_tup (pa_cons pz (pa_cons pz2 pa_nil (star_not s2)) (star_not s1))
  have sz : starred (.Tuple [.Name z p', .Name z2 p2] k p3) = false := rfl
  refine PE.mono (pe_callB r h1 h2 boot_isinstance (pa_cons hy (pa_cons pt pa_nil (star_not sz)) (star_not sy)) h3 h4 (star_not sy) (star_any fun w hw => ?_)) fun σ H Q q => ?_
  · rcases List.mem_cons.mp hw with rfl | hw
    · exact sz
    · cases hw
  · obtain ⟨m, ρ, S, R, re, h⟩ := q
    refine le_step hF e R re h fun d S1 m1 H1 v q le R1 rd re1 => ?_
    refine ⟨by show 2 ≤ sizeLine; decide, fun tp np => ?_⟩
    have q2 : bt (.isi .tl) [d] S1 (up X.K cl m H Q) := q
    exact ⟨v, tp, m1, S1, d, rfl, upd_same, R1.new np, rd.mono (le_new np), bt_mono (fun _ _ => up_le (le.trans (le_new np))) q2⟩
def rIxD (K : Fg) (cl : Cl) : R2 := fun x y H Q => ∃ m S dx dy, RS K cl m H S ∧ RD K m H dx x ∧ RD K m H dy y ∧ ixD dx dy S (up K cl m H Q)
theorem RDs.atI {K : Fg} {m : List Addr} {H : Hp} {ds : List D} {vs : List V} {i : Int} {d : D} (r : RDs K m H ds vs) (e : L2.atI ds i = some d) : ∃ v, L2.atI vs i = some v ∧ RD K m H d v := by
  unfold L2.atI at e ⊢
  rw [r.length] at e
  cases q : ixN vs.length i with
  | none => rw [q] at e; cases e
  | some j =>
    rw [q] at e
    exact r.get e
theorem ix_dict (hu : X.A.units + 1 < cLine) : IxR X (fun x y H Q => ∃ a v, x = .ref a ∧ DGet H a y (some v) ∧ Q v H) := by
  intro value slice pins s σ H x y v u Q I rx ry ⟨a, w, ex, g, q⟩ hs
  subst ex
  cases rx
  have hT := dict_typeIs I g
  unfold subscriptTail
  refine wpAny_bind ?_
  rw [getitemInPython_of_ne hT.not_modules]
  refine wpAny_bind (wpAny_specialOf hT PySem.F.slot_dict_getitem.lookup ?_)
  have fin : wpAny (model X.prog X.w) X.A (subscripted slice false (.ref a) u) (fun r s₃ => wpAny (model X.prog X.w) X.A (letTemporaryGo value (.ref a) r >>= fun _ => pure r) (EP X pins σ Q) X.xe s₃) X.xe s := by
    rw [hs]
    exact wpAny_operating (d_getItem hu I g ry fun w' s3 I3 rw' => wpAny_bind (wpAny_letTemporaryGo (wpAny_pure ⟨w, H, I3, rw', q⟩)))
  first
    | exact wpAny_pure (wpAny_bind fin)
    | exact wpAny_bind (wpAny_pure (wpAny_bind fin))
    | exact wpAny_bind fin
theorem ix_snd (hu : X.A.units + 650 < cLine) : IxR X (rIxD X.K cl) := by
  intro value slice pins s σ H x y v u Q I rx ry ⟨m, S, dx, dy, R, r1, r2, h⟩ hs
  unfold ixD at h
  split at h
  · rename_i l e
    split at h
    · cases r2
      split at h
      · rename_i w ew
        obtain ⟨a, vs, rfl, hq, q⟩ := r1.seq R e
        obtain ⟨z, ez, rz⟩ := q.atI ew
        rcases hq with hq | hq
        · exact ix_list value slice pins s σ H _ _ v u Q I rx ry ⟨a, vs, _, z, rfl, rfl, hq, ez, up_here h R rz⟩ hs
        · exact ix_tup value slice pins s σ H _ _ v u Q I rx ry ⟨a, vs, _, z, rfl, rfl, hq, ez, up_here h R rz⟩ hs
      · exact h.elim
    · exact h.elim
  · split at h
    · rename_i kvs k e1 e2
      split at h
      · rename_i w ew
        obtain ⟨n, a, l, rfl, hm, rfl, h1, q⟩ := r1.dctr R e1
        have ey := key_of_rd r2 e2
        subst ey
        rcases q.valV k with ⟨d, w', g1, g2, g3⟩ | ⟨g1, g2⟩
        · rw [g1] at ew
          cases ew
          refine ix_dict (by omega) value slice pins s σ H _ _ v u Q I rx ry ⟨a, w', rfl, ?_, up_here h R g3⟩ hs
          rw [← g2]
          exact dget_rd h1
        · rw [g1] at ew; cases ew
      · exact h.elim
    · unfold ixS at h
      split at h
      · split at h
        · rename_i c ec
          cases r1
          cases r2
          have hl := lim_le
          have := h.1
          exact ix_str value slice pins s σ H _ _ v u Q I rx ry ⟨_, _, c, rfl, rfl, by omega, ec, up_here h.2 R (.str _)⟩ hs
        · exact h.elim
      · exact h.elim
theorem plain_ix {b : Expr} (h : isSlice b = false) : PlainIx b := fun o i => by
  cases b <;> first | rfl | cases h
def rSlD (K : Fg) (cl : Cl) : V → Option Int → Option Int → Hp → VK → Prop := fun x lo hi H Q => ∃ m S dx, RS K cl m H S ∧ RD K m H dx x ∧ slD dx lo hi S (up K cl m H Q)
theorem RDs.cut {K : Fg} {m : List Addr} {H : Hp} {ds : List D} {vs : List V} (r : RDs K m H ds vs) (lo hi : Option Int) : RDs K m H (cut ds lo hi) (cutV vs lo hi) := by
  unfold Mn.cut cutV
  rw [r.length]
  exact (r.drop _).take _
theorem sl_snd : SlR X (rSlD X.K cl) := by
  intro pins s σ H x v vl vu lo hi sl Q I rx hs pl pu ⟨m, S, dx, R, r1, h⟩
  unfold slD at h
  split at h
  · rename_i ds
    cases r1 with
    | @tup a vs _ h1 q1 =>
      refine sl_tupA pins s σ H _ v vl vu lo hi sl Q I rx hs pl pu ⟨a, vs, rfl, h1, fun hw => ?_, fun _ p np => ?_⟩
      · have e : Mn.cut ds lo hi = ds := by
          unfold Mn.cut
          rw [q1.length, hw.1, hw.2, List.drop_zero, Nat.sub_zero, ← q1.length, List.take_length]
        rw [e] at h
        exact up_here h R (.tup h1 q1)
      · exact h m _ _ (le_new np) (R.new np) (.tup (SqT.of upd_same) ((q1.cut lo hi).mono (le_new np)))
  · split at h
    · rename_i l e
      obtain ⟨a, vs, rfl, hq, q⟩ := r1.lq R e
      exact sl_list pins s σ H _ v vl vu lo hi sl Q I rx hs pl pu ⟨a, vs, rfl, hq, fun p np => h _ _ _ (le_push np) (R.pushL np (q.cut lo hi)) (.ref (R.last p))⟩
    · exact h.elim
def lO (K : Fg) (cl : Cl) (F : Sem) (e : E) : TO := fun σ H Q => ∃ m ρ S, RS K cl m H S ∧ RE K m H ρ σ ∧ wpE F e ρ S (fun d S' => ∃ o, optP e d = some o ∧ ∀ m' H', Le m H m' H' → RS K cl m' H' S' → Q o H') (upX K cl)
theorem lo_step (hF : SemMono F) (e : E) {K : Fg} {m : List Addr} {H : Hp} {S : Store} {σ : L2.St} {ρ : Env} {P : DK} {Q : Option Int → Hp → Prop} (R : RS K cl m H S) (re : RE K m H ρ σ) (h : wpE F e ρ S P (upX K cl))
    (k : ∀ d S', P d S' → ∃ o, optP e d = some o ∧ ∀ m' H', Le m H m' H' → RS K cl m' H' S' → RE K m' H' ρ σ → Q o H') : lO K cl F e σ H Q :=
  ⟨m, ρ, S, R, re, wpE_mono hF e (fun d S' q => let ⟨o, eo, z⟩ := k d S' q; ⟨o, eo, fun m' H' le R' => z m' H' le R' (re.mono le)⟩) (fun _ _ z => z) h⟩
theorem po_snd {e : E} {x : Expr} (h : PE X x (lE X.K cl F e)) (hF : SemMono F) (hn : ∀ d o, optP e d = some o → ∃ i, d = .int i ∧ o = some i) : PO X (some x) (lO X.K cl F e) := by
  refine PO.mono (po_some h) fun σ H Q q => ?_
  obtain ⟨m, ρ, S, R, re, h⟩ := q
  refine le_step hF e R re h fun d S1 m1 H1 v q le R1 rd re1 => ?_
  obtain ⟨o, eo, k⟩ := q
  obtain ⟨i, rfl, rfl⟩ := hn d o eo
  cases rd
  exact ⟨i, rfl, k m1 H1 le R1⟩
theorem po_no : PO X none (lO X.K cl F .no) := by
  refine PO.mono po_none fun σ H Q q => ?_
  obtain ⟨m, ρ, S, R, re, h⟩ := q
  obtain ⟨o, eo, k⟩ := (show ∃ o, optP .no .non = some o ∧ ∀ m' H', Le m H m' H' → RS X.K cl m' H' S → Q o H' from h)
  cases eo
  exact k m H (Le.refl m H) R
theorem optP_int {e : E} (he : ∀ d, optP e d = match d with | .int i => some (some i) | _ => none) (d : D) (o : Option Int) (h : optP e d = some o) : ∃ i, d = .int i ∧ o = some i := by
  rw [he] at h
  split at h
  · cases h; exact ⟨_, rfl, rfl⟩
  · cases h
theorem optP_no {e : E} (hn : e ≠ .no) (d : D) : optP e d = match d with | .int i => some (some i) | _ => none := by
  cases e <;> first | exact absurd rfl hn | (cases d <;> rfl)
theorem no_of {e : E} {x : Expr} (h : chkE e c x = true) : e ≠ .no := by
  intro z
  subst z
  cases h
def plainX : Expr → Bool
  | .UnaryOp .Not _ _ => false | .BoolOp _ _ _ => false | .IfExp _ _ _ _ => false | .Compare _ _ _ _ => false | _ => true
theorem isT {x : Expr} (h : plainX x = true) (env : PySem.Env) : ∀ whole, isTrue x env whole = (do let v ← whole; standAt x.pos; holding [v] (truthy v)) := by
  intro whole
  cases x <;> first | rfl | (cases h; done) | (rename_i op _ _; cases op <;> first | rfl | cases h)
theorem not_t {b : Bool} (h : (!b) = true) : b = false := by simpa using h
structure Snd (c : Cxt) (cl : Cl) (F : Sem) (X : Cx) (e : E) (x : Expr) : Prop where
  v : PE X x (lE X.K cl F e)
  t : tOk e = true → PT X x (tB (lE X.K cl F e))
theorem Snd.plain {e : E} {x : Expr} (h : PE X x (lE X.K cl F e)) (hp : plainX x = true) : Snd c cl F X e x :=
  ⟨h, fun _ => pt_val h (isT hp X.env)⟩
theorem bl_of {K : Fg} {m : List Addr} {H : Hp} {b : Bool} {v : V} (r : RD K m H (.bl b) v) : v = .bl b := by cases r; rfl
theorem int_of {K : Fg} {m : List Addr} {H : Hp} {b : Int} {v : V} (r : RD K m H (.int b) v) : v = .int b := by cases r; rfl
theorem and_v (hF : SemMono F) {a b : E} {σ : L2.St} {H : Hp} {Q : VK} (h : lE X.K cl F (.and a b) σ H Q) : tAndV (lE X.K cl F a) (lE X.K cl F b) σ H Q := by
  obtain ⟨m, ρ, S, R, re, h⟩ := h
  refine le_step hF a R re h fun d S1 m1 H1 v q le R1 rd re1 => ?_
  split at q
  · exact ⟨true, bl_of rd, le_step hF b R1 re1 q fun d2 S2 m2 H2 v2 q2 le2 R2 rd2 re2 => q2 m2 H2 v2 (le.trans le2) R2 rd2⟩
  · exact ⟨false, bl_of rd, up_here (up_le le q) R1 (.bl false)⟩
  · exact q.elim
theorem or_v (hF : SemMono F) {a b : E} {σ : L2.St} {H : Hp} {Q : VK} (h : lE X.K cl F (.or a b) σ H Q) : tOrV (lE X.K cl F a) (lE X.K cl F b) σ H Q := by
  obtain ⟨m, ρ, S, R, re, h⟩ := h
  refine le_step hF a R re h fun d S1 m1 H1 v q le R1 rd re1 => ?_
  split at q
  · exact ⟨true, bl_of rd, up_here (up_le le q) R1 (.bl true)⟩
  · exact ⟨false, bl_of rd, le_step hF b R1 re1 q fun d2 S2 m2 H2 v2 q2 le2 R2 rd2 re2 => q2 m2 H2 v2 (le.trans le2) R2 rd2⟩
  · exact q.elim
theorem and_t (hF : SemMono F) {a b : E} {σ : L2.St} {H : Hp} {Q : Bool → Hp → Prop} (h : tB (lE X.K cl F (.and a b)) σ H Q) : tAnd (tB (lE X.K cl F a)) (tB (lE X.K cl F b)) σ H Q := by
  obtain ⟨m, ρ, S, R, re, h⟩ := h
  refine le_step hF a R re h fun d S1 m1 H1 v q le R1 rd re1 => ?_
  split at q
  · exact ⟨true, bl_of rd, le_step hF b R1 re1 q fun d2 S2 m2 H2 v2 q2 le2 R2 rd2 re2 => q2 m2 H2 v2 (le.trans le2) R2 rd2⟩
  · obtain ⟨k, e, z⟩ := up_here (up_le le q) R1 (.bl false)
    cases e
    exact ⟨false, bl_of rd, z⟩
  · exact q.elim
theorem or_t (hF : SemMono F) {a b : E} {σ : L2.St} {H : Hp} {Q : Bool → Hp → Prop} (h : tB (lE X.K cl F (.or a b)) σ H Q) : tOr (tB (lE X.K cl F a)) (tB (lE X.K cl F b)) σ H Q := by
  obtain ⟨m, ρ, S, R, re, h⟩ := h
  refine le_step hF a R re h fun d S1 m1 H1 v q le R1 rd re1 => ?_
  split at q
  · obtain ⟨k, e, z⟩ := up_here (up_le le q) R1 (.bl true)
    cases e
    exact ⟨true, bl_of rd, z⟩
  · exact ⟨false, bl_of rd, le_step hF b R1 re1 q fun d2 S2 m2 H2 v2 q2 le2 R2 rd2 re2 => q2 m2 H2 v2 (le.trans le2) R2 rd2⟩
  · exact q.elim
theorem cmp_v (hF : SemMono F) {op : CmpOp} {a b : E} {σ : L2.St} {H : Hp} {Q : VK} (h : lE X.K cl F (.cmp op a b) σ H Q) : tOp (rC X.K cl op) (lE X.K cl F a) (lE X.K cl F b) σ H Q := by
  obtain ⟨m, ρ, S, R, re, h⟩ := h
  refine le_step hF a R re h fun d S1 m1 H1 v q le R1 rd re1 => le_step hF b R1 re1 q fun d2 S2 m2 H2 v2 q2 le2 R2 rd2 re2 => ?_
  exact ⟨m2, S2, d, d2, R2, rd.mono le2, rd2, cmpB_mono (fun k z => up_here (up_le (le.trans le2) z) R2 (.bl k)) q2⟩
theorem chn_v (hF : SemMono F) {op op2 : CmpOp} {a b d : E} {σ : L2.St} {H : Hp} {Q : VK} (h : lE X.K cl F (.chn op op2 a b d) σ H Q) : tChain (rC X.K cl op) (rC X.K cl op2) (lE X.K cl F a) (lE X.K cl F b) (lE X.K cl F d) σ H Q := by
  obtain ⟨m, ρ, S, R, re, h⟩ := h
  refine le_step hF a R re h fun d1 S1 m1 H1 v q le R1 rd re1 => le_step hF b R1 re1 q fun d2 S2 m2 H2 v2 q2 le2 R2 rd2 re2 => ?_
  refine ⟨m2, S2, d1, d2, R2, rd.mono le2, rd2, cmpB_mono (fun k z => ?_) q2⟩
  refine ⟨k, rfl, ?_⟩
  cases k with
  | true =>
    refine (if_pos rfl).mpr ?_
    refine le_step hF d R2 re2 z fun d3 S3 m3 H3 v3 q3 le3 R3 rd3 re3 => ?_
    exact ⟨m3, S3, d2, d3, R3, rd2.mono le3, rd3, cmpB_mono (fun k z => up_here (up_le ((le.trans le2).trans le3) z) R3 (.bl k)) q3⟩
  | false =>
    refine (if_neg Bool.false_ne_true).mpr ?_
    exact up_here (up_le (le.trans le2) z) R2 (.bl false)
theorem pe_blt1 (hF : SemMono F) (ok : XOk c cl F X) {x : Str} {n : String} {p pos : Pos} {y : Expr} {ys : List Expr} {b : Bt} {es : Es} (hx : c.bltn x n = true) (hy : PA X (y :: ys) (lA X.K cl F es)) (st : ∀ w ∈ y :: ys, starred w = false) (hv : bootBuiltins (n : Str) = some (.builtin n))
    (r : CallR X (.builtin n) (rBt X.K cl b)) : PE X (.Call (.Name x p) (y :: ys) [] pos) (lE X.K cl F (.blt b es)) := by
  obtain ⟨ex, h1, h2, h3, h4⟩ := bltn_of ok hx
  subst ex
  refine PE.mono (pe_callB r h1 h2 hv hy h3 h4 (star_not (st y List.mem_cons_self)) (star_any fun w hw => st w (List.mem_cons_of_mem _ hw))) fun σ H Q q => ?_
  obtain ⟨m, ρ, S, R, re, q⟩ := q
  refine la_step hF es R re q fun ds S1 m1 H1 vs q le R1 rd re1 => ?_
  exact ⟨m1, S1, ds, R1, rd, bt_mono (fun _ _ => up_le le) q⟩
theorem pe_bltT (hF : SemMono F) (ok : XOk c cl F X) {x : Str} {n : String} {p pos : Pos} {y : Expr} {b : Bt} {es : Es} (hx : c.bltn x n = true) (hy : PA X [y] (lA X.K cl F es)) (st : starred y = false) (hv : bootBuiltins (n : Str) = some (.type n))
    (r : CallR X (.type n) (rBt X.K cl b)) : PE X (.Call (.Name x p) [y] [] pos) (lE X.K cl F (.blt b es)) := by
  obtain ⟨ex, h1, h2, h3, h4⟩ := bltn_of ok hx
  subst ex
  refine ⟨fun pins s σ H Q I h => ?_⟩
  obtain ⟨m, ρ, S, R, re, q⟩ := h
  refine Call_ (ld_blt I h1 h2 hv (PyProof.Rows.callWith_type1 (thn (hy.run pos pins s σ H _ I (la_step hF es R re q fun ds S1 m1 H1 vs q le R1 rd re1 => (⟨m1, S1, ds, R1, rd, bt_mono (fun _ _ => up_le le) q⟩ : rBt X.K cl b vs H1 Q))) fun us s1 ⟨vs, H1, I1, r1, q1⟩ => ?_) (star_not st) rfl) h3 h4)
  exact r pins s1 σ H1 vs us Q I1 r1 q1
theorem boot_dictT : bootBuiltins "dict" = some (.type "dict") := by decide +kernel
theorem boot_sumB : bootBuiltins "sum" = some (.builtin "sum") := by decide +kernel
theorem boot_anyB : bootBuiltins "any" = some (.builtin "any") := by decide +kernel
theorem boot_allB : bootBuiltins "all" = some (.builtin "all") := by decide +kernel
theorem boot_sortedB : bootBuiltins "sorted" = some (.builtin "sorted") := by decide +kernel
theorem pe_maxd (hF : SemMono F) (ok : XOk c cl F X) {x : Str} {p pos kp : Pos} {y z : Expr} {e e2 : E} (hx : c.bltn x "max" = true) (hy : PE X y (lE X.K cl F e)) (hz : PE X z (lE X.K cl F e2)) (sy : starred y = false) :
    PE X (.Call (.Name x p) [y] [⟨some "default", z, kp⟩] pos) (lE X.K cl F (.blt .maxd (.cons e (.cons e2 .nil)))) := by
  obtain ⟨ex, h1, h2, h3, h4⟩ := bltn_of ok hx
  subst ex
  refine PE.mono (pe_callBK (blt_maxd (cl := cl) ok.calm ok.units) h1 h2 boot_max (pa_cons hy pa_nil (star_not sy)) (pk_cons hz pk_nil) h3 h4 (by rw [star_not sy]; rfl) (star_any fun w hw => by rw [List.mem_singleton.mp hw]; exact sy)) fun σ H Q q => ?_
  · obtain ⟨m, ρ, S, R, re, q⟩ := q
    replace q : wpE F e ρ S (fun x S1 => wpE F e2 ρ S1 (fun y S2 => bt .maxd [x, y] S2 (up X.K cl m H Q)) (upX X.K cl)) (upX X.K cl) := q
    refine le_step hF e R re q fun d S1 m1 H1 v q le R1 rd re1 => le_step hF e2 R1 re1 q fun d2 S2 m2 H2 v2 q2 le2 R2 rd2 re2 => ?_
    exact ⟨m2, S2, d, d2, R2, .cons (rd.mono le2) .nil, .cons rd2 .nil, bt_mono (b := .maxd) (fun _ _ => up_le (le.trans le2)) q2⟩
theorem boot_absB : bootBuiltins "abs" = some (.builtin "abs") := by decide +kernel
theorem pe_mind (hF : SemMono F) (ok : XOk c cl F X) {x : Str} {p pos kp : Pos} {y z : Expr} {e e2 : E} (hx : c.bltn x "min" = true) (hy : PE X y (lE X.K cl F e)) (hz : PE X z (lE X.K cl F e2)) (sy : starred y = false) :
    PE X (.Call (.Name x p) [y] [⟨some "default", z, kp⟩] pos) (lE X.K cl F (.blt .mind (.cons e (.cons e2 .nil)))) := by
  obtain ⟨ex, h1, h2, h3, h4⟩ := bltn_of ok hx
  subst ex
  refine PE.mono (pe_callBK (blt_mind (cl := cl) ok.calm ok.units) h1 h2 boot_min (pa_cons hy pa_nil (star_not sy)) (pk_cons hz pk_nil) h3 h4 (by rw [star_not sy]; rfl) (star_any fun w hw => by rw [List.mem_singleton.mp hw]; exact sy)) fun σ H Q q => ?_
  · obtain ⟨m, ρ, S, R, re, q⟩ := q
    replace q : wpE F e ρ S (fun x S1 => wpE F e2 ρ S1 (fun y S2 => bt .mind [x, y] S2 (up X.K cl m H Q)) (upX X.K cl)) (upX X.K cl) := q
    refine le_step hF e R re q fun d S1 m1 H1 v q le R1 rd re1 => le_step hF e2 R1 re1 q fun d2 S2 m2 H2 v2 q2 le2 R2 rd2 re2 => ?_
    exact ⟨m2, S2, d, d2, R2, .cons (rd.mono le2) .nil, .cons rd2 .nil, bt_mono (b := .mind) (fun _ _ => up_le (le.trans le2)) q2⟩
end
end Mn
namespace Mn
open PySem PySem.Spec PyProof.Rows L2
section
variable {c : Cxt} {cl : Cl} {F : Sem} {X : Cx}
def Off (vs : List Nat) (σ σ' : L2.St) : Prop := σ'.length = σ.length ∧ ∀ j, j ∉ vs → σ'[j]? = σ[j]?
theorem Off.refl (vs : List Nat) (σ : L2.St) : Off vs σ σ := ⟨rfl, fun _ _ => rfl⟩
theorem Off.cat {vs us : List Nat} {σ σ1 σ2 : L2.St} (a : Off vs σ σ1) (b : Off us σ1 σ2) : Off (vs ++ us) σ σ2 :=
  ⟨b.1.trans a.1, fun j h => by rw [List.mem_append, not_or] at h; rw [b.2 j h.2, a.2 j h.1]⟩
theorem Off.set (i : Nat) (σ : L2.St) (x : Option V) : Off [i] σ (σ.set i x) := ⟨List.length_set, fun j h => by rw [List.getElem?_set_ne (fun z => h (by simp [z]))]⟩
theorem wipe_in {σ : L2.St} {i : Nat} : ∀ {vs : List Nat}, i ∈ vs → (wipe σ vs)[i]? = if i < σ.length then some none else none
  | [], h => by cases h
  | v :: vs, h => by
    unfold wipe
    by_cases e : v = i
    · subst e
      by_cases hl : v < σ.length
      · rw [List.getElem?_set_self (by rw [wipe_length]; exact hl), if_pos hl]
      · rw [List.getElem?_eq_none (by rw [List.length_set, wipe_length]; omega), if_neg hl]
    · rw [List.getElem?_set_ne e]
      exact wipe_in ((List.mem_cons.mp h).resolve_left (Ne.symm e))
theorem Off.wipe {vs us : List Nat} {σ σ2 : L2.St} (h : Off us (wipe σ vs) σ2) (hs : ∀ i ∈ us, i ∈ vs) : L2.wipe σ2 vs = L2.wipe σ vs := by
  have hl : σ2.length = σ.length := by rw [h.1, wipe_length]
  refine List.ext_getElem? fun j => ?_
  by_cases hj : j ∈ vs
  · rw [wipe_in hj, wipe_in hj, hl]
  · rw [wipe_out hj, h.2 j fun z => hj (hs j z), wipe_out hj]
theorem tg_of (ok : XOk c cl F X) {x : Str} (h : (!c.blk || (match c.sc.names.lookup x with | some .local => true | _ => false)) = true) : X.fn x = true ∨ X.env.scope.names.lookup x = some .local := by
  rcases Bool.or_eq_true_iff.mp h with h | h
  · exact .inl (ok.tg (by simpa using h) x)
  · right
    rw [ok.sc]
    split at h
    · assumption
    · cases h
def lG (K : Fg) (cl : Cl) (t : Tg) : TG := fun v σ H Q => ∃ m ρ S d ρ', RS K cl m H S ∧ RE K m H ρ σ ∧ RD K m H d v ∧ t.bind d ρ = some ρ' ∧ ∀ m' H' σ', Le m H m' H' → RS K cl m' H' S → RE K m' H' ρ' σ' → Off t.slots σ σ' → Q σ' H'
theorem PG.mono {e : Expr} {t t' : TG} (h : PG X e t) (k : ∀ v σ H Q, t' v σ H Q → t v σ H Q) : PG X e t' := ⟨fun pins s σ H v u Q I r q => h.run pins s σ H v u Q I r (k v σ H Q q)⟩
theorem lG_go {K : Fg} {t : Tg} {m : List Addr} {ρ : Env} {S : Store} {d : D} {ρ' : Env} {v : V} {σ : L2.St} {H : Hp} {Q : L2.St → Hp → Prop} (R : RS K cl m H S) (re : RE K m H ρ σ) (rd : RD K m H d v) (e : t.bind d ρ = some ρ')
    (k : ∀ m' H' σ', Le m H m' H' → RS K cl m' H' S → RE K m' H' ρ' σ' → Off t.slots σ σ' → Q σ' H') : lG K cl t v σ H Q := ⟨m, ρ, S, d, ρ', R, re, rd, e, k⟩
theorem each_cons {x : Expr} {xs : List Expr} {env : PySem.Env} (h : starred x = false) : (assignEach (x :: xs) env).map (·.2) = assign x env :: (assignEach xs env).map (·.2) := by
  cases x <;> first | rfl | cases h
theorem each_len {env : PySem.Env} : ∀ {xs : List Expr}, (assignEach xs env).length = xs.length
  | [] => rfl
  | x :: xs => by
    have ih := each_len (env := env) (xs := xs)
    cases x <;> (show (assignEach xs env).length + 1 = xs.length + 1; rw [ih])
theorem each_star {env : PySem.Env} : ∀ {xs : List Expr}, (∀ x ∈ xs, starred x = false) → (assignEach xs env).findIdx? (·.1) = none
  | [], _ => rfl
  | x :: xs, h => by
    have ih := each_star (env := env) (xs := xs) fun y hy => h y (List.mem_cons_of_mem _ hy)
    have hx := h x List.mem_cons_self
    have e : ∃ f, assignEach (x :: xs) env = (false, f) :: assignEach xs env := by cases x <;> first | exact ⟨_, rfl⟩ | cases hx
    obtain ⟨f, e⟩ := e
    rw [e, List.findIdx?_cons]
    simp [ih]
theorem tg_star {t : Tg} {x : Expr} (h : chkTg c t x = true) : starred x = false := by
  cases t <;> (unfold chkTg at h; split at h <;> first | rfl | cases h)
theorem tgs_star : ∀ {ts : Tgs} {xs : List Expr}, chkTgs c ts xs = true → ∀ x ∈ xs, starred x = false
  | .nil, xs, h => by
    cases xs with
    | nil => intro x hx; cases hx
    | cons _ _ => cases h
  | .cons t ts, xs, h => by
    cases xs with
    | nil => cases h
    | cons y ys =>
      obtain ⟨h1, h2⟩ := and2 (show (chkTg c t y && chkTgs c ts ys) = true from h)
      intro x hx
      rcases List.mem_cons.mp hx with rfl | hx
      · exact tg_star h1
      · exact tgs_star h2 x hx
def lGs (K : Fg) (cl : Cl) (ts : Tgs) : TGs := fun vs σ H Q => ∃ m ρ S ds ρ', RS K cl m H S ∧ RE K m H ρ σ ∧ RDs K m H ds vs ∧ ts.bind ds ρ = some ρ' ∧ ∀ m' H' σ', Le m H m' H' → RS K cl m' H' S → RE K m' H' ρ' σ' → Off ts.slots σ σ' → Q σ' H'
theorem PGs.mono {es : List Expr} {t t' : TGs} (h : PGs X es t) (k : ∀ v σ H Q, t' v σ H Q → t v σ H Q) : PGs X es t' := ⟨fun pins s σ H v u Q I r q => h.run pins s σ H v u Q I r (k v σ H Q q)⟩
theorem tgs_len : ∀ {ts : Tgs} {xs : List Expr} {ds : List D} {ρ ρ' : Env}, chkTgs c ts xs = true → ts.bind ds ρ = some ρ' → ds.length = xs.length
  | .nil, xs, ds, _, _, h, e => by
    cases xs with
    | cons _ _ => cases h
    | nil =>
      cases ds with
      | nil => rfl
      | cons _ _ => cases e
  | .cons t ts, xs, ds, ρ, ρ', h, e => by
    cases xs with
    | nil => cases h
    | cons y ys =>
      cases ds with
      | nil => cases e
      | cons d ds =>
        obtain ⟨h1, h2⟩ := and2 (show (chkTg c t y && chkTgs c ts ys) = true from h)
        unfold Tgs.bind at e
        dsimp only at e
        split at e
        · rw [List.length_cons, List.length_cons, tgs_len h2 e]
        · cases e
mutual
theorem sndTg (ok : XOk c cl F X) : ∀ (t : Tg) (x : Expr), chkTg c t x = true → PG X x (lG X.K cl t)
  | .nm i, x, h => by
    unfold chkTg at h
    split at h
    · obtain ⟨h1, h2, h3⟩ := and3 h
      have tg := tg_of ok h3
      refine PG.mono (pg_name (i := i) ok.nd (by rw [ok.N]; exact of_decide_eq_true h1) (by rw [ok.sc]; exact loc_of h2) tg) fun v σ H Q q => ?_
      obtain ⟨m, ρ, S, d, ρ', R, re, rd, e, k⟩ := q
      cases e
      exact k m H _ (Le.refl m H) R (re.set rd i) (Off.set i σ _)
    · cases h
  | .tp ts, x, h => by
    unfold chkTg at h
    split at h
    · rename_i xs kk pos
      have A := sndTgs ok ts _ h
      refine PG.mono (pg_tup (n := xs.length) ok.calm A each_len (each_star (tgs_star h))) fun v σ H Q q => ?_
      obtain ⟨m, ρ, S, d, ρ', R, re, rd, e, k⟩ := q
      unfold Tg.bind at e
      split at e
      · cases rd with
        | tup ht qt => exact ⟨_, _, rfl, ht, by rw [← qt.length]; exact tgs_len h e, m, ρ, S, _, ρ', R, re, qt, e, k⟩
      · cases e
    · cases h
theorem sndTgs (ok : XOk c cl F X) : ∀ (ts : Tgs) (xs : List Expr), chkTgs c ts xs = true → PGs X xs (lGs X.K cl ts)
  | .nil, xs, h => by
    cases xs with
    | cons _ _ => cases h
    | nil =>
      refine PGs.mono pgs_nil fun vs σ H Q q => ?_
      obtain ⟨m, ρ, S, ds, ρ', R, re, rd, e, k⟩ := q
      cases rd with
      | nil => cases e; exact ⟨rfl, k m H σ (Le.refl m H) R re (Off.refl _ _)⟩
      | cons _ _ => cases e
  | .cons t ts, xs, h => by
    cases xs with
    | nil => cases h
    | cons x xs =>
      obtain ⟨h1, h2⟩ := and2 (show (chkTg c t x && chkTgs c ts xs) = true from h)
      have A := sndTg ok t _ h1
      have B := sndTgs ok ts _ h2
      refine PGs.mono (pgs_cons A B (each_cons (tg_star h1))) fun vs σ H Q q => ?_
      obtain ⟨m, ρ, S, ds, ρ', R, re, rd, e, k⟩ := q
      cases rd with
      | nil => cases e
      | cons r1 r2 =>
        unfold Tgs.bind at e
        dsimp only at e
        split at e
        · rename_i ρ1 e1
          exact ⟨_, _, rfl, lG_go R re r1 e1 fun m1 H1 σ1 le1 R1 re1 of1 => ⟨m1, ρ1, S, _, ρ', R1, re1, r2.mono le1, e, fun m2 H2 σ2 le2 R2 re2 of2 => k m2 H2 σ2 (le1.trans le2) R2 re2 (of1.cat of2)⟩⟩
        · cases e
end
def iSeq (K : Fg) (te : TE) : TI := fun σ H R => te σ H fun x H1 => ∃ a, x = .ref a ∧ (((∃ xs, SqL K H1 a xs) ∧ R (Itl K a) H1) ∨ ((∃ xs, SqT K H1 a xs) ∧ R (Itt K a) H1))
theorem pi_seq {tg l : Expr} {te : TE} (hl : PE X l te) : PI X tg l (iSeq X.K te) := by
  refine ⟨fun pins s σ H R I h => thn (hl.run pins s σ H _ I h) fun v s1 ⟨x, H1, I1, r1, a, ex, q1⟩ => ?_⟩
  subst ex
  cases r1
  have new : ∀ b ∈ [s1.heap.objs.size], FpOk X pins H1 b := fun b hb => by
    rw [List.mem_singleton.mp hb]
    exact I1.fpOk (Nat.le_refl _) (I1.hok.fresh (Nat.le_refl _))
  rcases q1 with ⟨⟨xs, hq⟩, q⟩ | ⟨⟨xs, hq⟩, q⟩
  · obtain ⟨its, _, pl, _⟩ := I1.list hq
    exact wpAny_pyIter_list pl.isList ⟨_, _, _, _, H1, rfl, I1.kept (t' := s1.toks) fun _ _ => Heap.get?_push_of_some _,
      turn_list a _, ⟨_, Heap.get?_push_size _ rfl, rfl, rfl⟩, new, q⟩
  · obtain ⟨its, _, pt, _⟩ := I1.tuple hq
    exact wpAny_pyIter_tuple (items := its.toArray) pt ⟨_, _, _, _, H1, rfl, I1.kept (t' := s1.toks) fun _ _ => Heap.get?_push_of_some _,
      turn_tuple a _, ⟨_, Heap.get?_push_size _ rfl, rfl, rfl⟩, new, q⟩
def Walks (K : Fg) (cl : Cl) (m1 : List Addr) (H1 : Hp) (J : L2.It) (l : List D) (G : Store → Prop) : Prop :=
  (∀ m H S i, Le m1 H1 m H → RS K cl m H S → G S → l.length ≤ i → J.stop i H) ∧
  (∀ m H S i d, Le m1 H1 m H → RS K cl m H S → G S → l[i]? = some d → J.go i H ∧ ∀ x H', J.yld i H x H' → ∃ m', Le m H m' H' ∧ RS K cl m' H' S ∧ RD K m' H' d x)
theorem walks_seq {K : Fg} {m1 : List Addr} {H1 : Hp} {S1 : Store} {a : Addr} {x : D} {l : List D} {G : Store → Prop} (R1 : RS K cl m1 H1 S1) (rd : RD K m1 H1 x (.ref a))
    (h : (x = .tup l ∧ G = fun _ => True) ∨ (x = .fl l ∧ G = fun _ => True) ∨ ∃ n, x = .ref n ∧ lst? S1 n = some l ∧ G = fun S => lst? S n = some l) :
    ((∃ xs, SqL K H1 a xs) ∧ Walks K cl m1 H1 (Itl K a) l G) ∨ ((∃ xs, SqT K H1 a xs) ∧ Walks K cl m1 H1 (Itt K a) l G) := by
  rcases h with ⟨rfl, rfl⟩ | ⟨rfl, rfl⟩ | ⟨n, rfl, e, rfl⟩
  · cases rd with
    | @tup _ vs _ ht q =>
      refine .inr ⟨⟨_, ht⟩, fun m H S i le R _ hi => ⟨vs, le.sqT ht, by rw [← q.length]; exact hi⟩, fun m H S i d le R _ hd => ?_⟩
      obtain ⟨v, hv, rv⟩ := q.get hd
      refine ⟨⟨vs, v, le.sqT ht, hv⟩, fun y H' hy => ?_⟩
      obtain ⟨e1, e2⟩ := hy
      subst e1
      have e3 := e2 vs (le.sqT ht)
      rw [hv] at e3
      cases e3
      exact ⟨m, Le.refl m H', R, rv.mono le⟩
  · cases rd with
    | @fl _ vs _ ht q =>
      refine .inl ⟨⟨_, ht.sq⟩, fun m H S i le R _ hi => ⟨vs, (le.pers ht).sq, by rw [← q.length]; exact hi⟩, fun m H S i d le R _ hd => ?_⟩
      obtain ⟨v, hv, rv⟩ := q.get hd
      refine ⟨⟨vs, v, (le.pers ht).sq, hv⟩, fun y H' hy => ?_⟩
      obtain ⟨e1, e2⟩ := hy
      subst e1
      have e3 := e2 vs (le.pers ht).sq
      rw [hv] at e3
      cases e3
      exact ⟨m, Le.refl m H', R, rv.mono le⟩
  · cases rd with
    | ref hm =>
      obtain ⟨vs0, h0, _⟩ := R1.at_ n a _ hm (lst_some e)
      refine .inl ⟨⟨_, SqL.of h0⟩, fun m H S i le R g hi => ?_, fun m H S i d le R g hd => ?_⟩
      · obtain ⟨vs, h1, q⟩ := R.at_ n a _ (le.pre _ _ hm) (lst_some g)
        exact ⟨vs, SqL.of h1, by rw [← q.length]; exact hi⟩
      · obtain ⟨vs, h1, q⟩ := R.at_ n a _ (le.pre _ _ hm) (lst_some g)
        obtain ⟨v, hv, rv⟩ := q.get hd
        refine ⟨⟨vs, v, SqL.of h1, hv⟩, fun y H' hy => ?_⟩
        obtain ⟨e1, e2⟩ := hy
        subst e1
        have e3 := e2 vs (SqL.of h1)
        rw [hv] at e3
        cases e3
        exact ⟨m, Le.refl m H', R, rv⟩
theorem rngL_get {a b : Int} {i : Nat} {d : D} (h : (rngL a b)[i]? = some d) : i < (b - a).toNat ∧ d = .int (a + i) := by
  unfold rngL at h
  rw [List.getElem?_map] at h
  cases e : (List.range (b - a).toNat)[i]? with
  | none => rw [e] at h; cases h
  | some k =>
    rw [e] at h
    have h1 := (List.getElem?_eq_some_iff.mp e).1
    have h2 := (List.getElem?_eq_some_iff.mp e).2
    rw [List.length_range] at h1
    rw [List.getElem_range] at h2
    subst h2
    cases h
    exact ⟨h1, rfl⟩
theorem walks_rng {K : Fg} {m1 : List Addr} {H1 : Hp} (a b : Int) : Walks K cl m1 H1 (Itr a (b - a).toNat) (rngL a b) (fun _ => True) := by
  refine ⟨fun m H S i le R _ hi => ?_, fun m H S i d le R _ hd => ?_⟩
  · unfold rngL at hi
    rw [List.length_map, List.length_range] at hi
    exact hi
  · obtain ⟨h1, rfl⟩ := rngL_get hd
    refine ⟨h1, fun x H' y => ?_⟩
    obtain ⟨e, ex⟩ := y
    subst e ex
    exact ⟨m, Le.refl m _, R, .int _⟩
theorem rngD_get {a b : Int} {i : Nat} {d : D} (h : (rngD a b)[i]? = some d) : i < (a - b).toNat ∧ d = .int (a - i) := by
  unfold rngD at h
  rw [List.getElem?_map] at h
  cases e : (List.range (a - b).toNat)[i]? with
  | none => rw [e] at h; cases h
  | some k =>
    rw [e] at h
    have h1 := (List.getElem?_eq_some_iff.mp e).1
    have h2 := (List.getElem?_eq_some_iff.mp e).2
    rw [List.length_range] at h1
    rw [List.getElem_range] at h2
    subst h2
    cases h
    exact ⟨h1, rfl⟩
theorem walks_rngd {K : Fg} {m1 : List Addr} {H1 : Hp} (a b : Int) : Walks K cl m1 H1 (Itc a (-1) (a - b).toNat) (rngD a b) (fun _ => True) := by
  refine ⟨fun m H S i le R _ hi => ?_, fun m H S i d le R _ hd => ?_⟩
  · unfold rngD at hi
    rw [List.length_map, List.length_range] at hi
    exact hi
  · obtain ⟨h1, rfl⟩ := rngD_get hd
    refine ⟨h1, fun x H' y => ?_⟩
    obtain ⟨e, ex⟩ := y
    subst e
    have e2 : a + (i : Int) * (-1) = a - i := by omega
    rw [e2] at ex
    subst ex
    exact ⟨m, Le.refl m _, R, .int _⟩
theorem rng2L_get {a b : Int} {i : Nat} {d : D} (h : (rng2L a b)[i]? = some d) : i < ((b - a + 1) / 2).toNat ∧ d = .int (a + 2 * i) := by
  unfold rng2L at h
  rw [List.getElem?_map] at h
  cases e : (List.range ((b - a + 1) / 2).toNat)[i]? with
  | none => rw [e] at h; cases h
  | some k =>
    rw [e] at h
    have h1 := (List.getElem?_eq_some_iff.mp e).1
    have h2 := (List.getElem?_eq_some_iff.mp e).2
    rw [List.length_range] at h1
    rw [List.getElem_range] at h2
    subst h2
    cases h
    exact ⟨h1, rfl⟩
theorem walks_rng2 {K : Fg} {m1 : List Addr} {H1 : Hp} (a b : Int) : Walks K cl m1 H1 (Itc a 2 ((b - a + 1) / 2).toNat) (rng2L a b) (fun _ => True) := by
  refine ⟨fun m H S i le R _ hi => ?_, fun m H S i d le R _ hd => ?_⟩
  · unfold rng2L at hi
    rw [List.length_map, List.length_range] at hi
    exact hi
  · obtain ⟨h1, rfl⟩ := rng2L_get hd
    refine ⟨h1, fun x H' y => ?_⟩
    obtain ⟨e, ex⟩ := y
    subst e
    have e2 : a + (i : Int) * 2 = a + 2 * i := by omega
    rw [e2] at ex
    subst ex
    exact ⟨m, Le.refl m _, R, .int _⟩
theorem size2 (a b : Int) : Builtin.Range.rangeSize a b 2 = if a < b then (b - a - 1) / 2 + 1 else 0 := by
  unfold Builtin.Range.rangeSize
  simp only [show (2 : Int) > 0 by decide, if_true]
theorem rg2 {i j : Int} (ha : -1000000 ≤ i) (ha' : i ≤ 1000000) (hb : -1000000 ≤ j) (hb' : j ≤ 1000000) : RgC i j 2 ((j - i + 1) / 2).toNat := by
  refine ⟨by decide, by decide, ?_, ?_⟩
  · unfold Builtin.Range.small
    rw [size2]
    simp only [Builtin.Range.rangeFitsLong, Bool.and_eq_true, Bool.or_eq_true, decide_eq_true_eq, beq_iff_eq, show (2 : Int) > 0 by decide, if_true]
    split <;> omega
  · rw [size2]
    split <;> omega
theorem enum_get : ∀ {l : List D} {k i : Nat} {d : D}, (enumFrom k l)[i]? = some d → ∃ e, l[i]? = some e ∧ d = .tup [.int ((k + i : Nat) : Int), e]
  | [], _, _, _, h => by simp [enumFrom] at h
  | x :: r, k, 0, d, h => by
    simp [enumFrom] at h
    exact ⟨x, rfl, by rw [← h]; rfl⟩
  | x :: r, k, i + 1, d, h => by
    have h2 : (enumFrom (k + 1) r)[i]? = some d := by simpa [enumFrom] using h
    obtain ⟨e, h3, h4⟩ := enum_get h2
    refine ⟨e, by simpa using h3, ?_⟩
    rw [h4, show k + 1 + i = k + (i + 1) by omega]
theorem enum_len : ∀ (l : List D) (k : Nat), (enumFrom k l).length = l.length
  | [], _ => rfl
  | x :: r, k => by
    show (enumFrom (k + 1) r).length + 1 = r.length + 1
    rw [enum_len r]
theorem walks_enum {K : Fg} {m1 : List Addr} {H1 : Hp} {S1 : Store} {a : Addr} {x : D} {l : List D} {G : Store → Prop} (R1 : RS K cl m1 H1 S1) (rd : RD K m1 H1 x (.ref a))
    (h : (x = .tup l ∧ G = fun _ => True) ∨ (x = .fl l ∧ G = fun _ => True) ∨ ∃ n, x = .ref n ∧ lst? S1 n = some l ∧ G = fun S => lst? S n = some l) :
    ((∃ xs, SqL K H1 a xs) ∧ Walks K cl m1 H1 (Ite K a) (enumL l) G) ∨ ((∃ xs, SqT K H1 a xs) ∧ Walks K cl m1 H1 (Iet K a) (enumL l) G) := by
  have key : ∀ {m : List Addr} {H : Hp} {S : Store} {i : Nat} {vs : List V} {d e : D} {v : V} {T : Addr}, RS K cl m H S → H T = none → RD K m H e v → RD K m (upd H T (.tup [.int (i : Nat), v])) (.tup [.int ((0 + i : Nat) : Int), e]) (.ref T) := by
    intro m H S i vs d e v T R nT re
    refine .tup (SqT.of upd_same) (.cons ?_ (.cons (re.mono (le_new nT)) .nil))
    rw [Nat.zero_add]
    exact .int _
  rcases h with ⟨rfl, rfl⟩ | ⟨rfl, rfl⟩ | ⟨n, rfl, e, rfl⟩
  · cases rd with
    | @tup _ vs _ ht q =>
      refine .inr ⟨⟨_, ht⟩, fun m H S i le R _ hi => ⟨vs, le.sqT ht, by rw [enumL, enum_len] at hi; rw [← q.length]; exact hi⟩, fun m H S i d le R _ hd => ?_⟩
      obtain ⟨e, he, rfl⟩ := enum_get hd
      obtain ⟨v, hv, rv⟩ := q.get he
      refine ⟨⟨vs, v, le.sqT ht, hv⟩, fun y H' hy => ?_⟩
      obtain ⟨T, x, ex, nT, eH, e2⟩ := hy
      subst ex eH
      have e3 := e2 vs (le.sqT ht)
      rw [hv] at e3
      cases e3
      exact ⟨m, le_new nT, R.new nT, key (vs := vs) (d := e) R nT (rv.mono le)⟩
  · cases rd with
    | @fl _ vs _ ht q =>
      refine .inl ⟨⟨_, ht.sq⟩, fun m H S i le R _ hi => ⟨vs, (le.pers ht).sq, by rw [enumL, enum_len] at hi; rw [← q.length]; exact hi⟩, fun m H S i d le R _ hd => ?_⟩
      obtain ⟨e, he, rfl⟩ := enum_get hd
      obtain ⟨v, hv, rv⟩ := q.get he
      refine ⟨⟨vs, v, (le.pers ht).sq, hv⟩, fun y H' hy => ?_⟩
      obtain ⟨T, x, ex, nT, eH, e2⟩ := hy
      subst ex eH
      have e3 := e2 vs (le.pers ht).sq
      rw [hv] at e3
      cases e3
      exact ⟨m, le_new nT, R.new nT, key (vs := vs) (d := e) R nT (rv.mono le)⟩
  · cases rd with
    | ref hm =>
      obtain ⟨vs0, h0, _⟩ := R1.at_ n a _ hm (lst_some e)
      refine .inl ⟨⟨_, SqL.of h0⟩, fun m H S i le R g hi => ?_, fun m H S i d le R g hd => ?_⟩
      · obtain ⟨vs, h1, q⟩ := R.at_ n a _ (le.pre _ _ hm) (lst_some g)
        exact ⟨vs, SqL.of h1, by rw [enumL, enum_len] at hi; rw [← q.length]; exact hi⟩
      · obtain ⟨vs, h1, q⟩ := R.at_ n a _ (le.pre _ _ hm) (lst_some g)
        obtain ⟨e, he, rfl⟩ := enum_get hd
        obtain ⟨v, hv, rv⟩ := q.get he
        refine ⟨⟨vs, v, SqL.of h1, hv⟩, fun y H' hy => ?_⟩
        obtain ⟨T, x, ex, nT, eH, e2⟩ := hy
        subst ex eH
        have e3 := e2 vs (SqL.of h1)
        rw [hv] at e3
        cases e3
        exact ⟨m, le_new nT, R.new nT, key (vs := vs) (d := e) R nT rv⟩
theorem walks_keys {K : Fg} {m1 : List Addr} {H1 : Hp} {a : Addr} {n : Nat} {o : Obj} {kvs : List (Key × D)} {l : List (Key × V)} (hn : m1[n]? = some a) (h1 : H1 a = some (.frz o (.dK l))) (q : KR K m1 H1 kvs l) :
    Walks K cl m1 H1 (Itk a o l) (kvs.map fun kv => keyD kv.1) (fun S => S[n]? = some (.fdct kvs)) := by
  refine ⟨fun m H S i le R g hi => ⟨le.frz _ _ _ h1, by rw [List.length_map] at hi; rw [← q.length]; exact hi⟩, fun m H S i d le R g hd => ?_⟩
  have q2 := RDs.keys q
  obtain ⟨v, hv, rv⟩ := q2.get hd
  have hlt : i < l.length := by
    have := (List.getElem?_eq_some_iff.mp hv).1
    rwa [List.length_map] at this
  refine ⟨⟨le.frz _ _ _ h1, hlt⟩, fun x H' y => ?_⟩
  obtain ⟨e, k, w, hk, ex⟩ := y
  subst e ex
  rw [List.getElem?_map, hk] at hv
  cases hv
  exact ⟨m, Le.refl m _, R, rv.mono le⟩
theorem walks_chars {K : Fg} {m1 : List Addr} {H1 : Hp} {z : Str} : Walks K cl m1 H1 (Its z) (charsL z) (fun _ => True) := by
  have hl : (charsL z).length = z.cps.size := by unfold charsL; rw [List.length_map, Array.length_toList]
  refine ⟨fun m H S i le R g hi => by rw [hl] at hi; exact hi, fun m H S i d le R g hd => ?_⟩
  have hlt : i < z.cps.size := by rw [← hl]; exact (List.getElem?_eq_some_iff.mp hd).1
  refine ⟨hlt, fun x H' y => ?_⟩
  obtain ⟨e, c, hc, ex⟩ := y
  subst e ex
  unfold charsL at hd
  rw [List.getElem?_map, Array.getElem?_toList, hc] at hd
  cases hd
  exact ⟨m, Le.refl m _, R, .str _⟩
theorem walks_vals {K : Fg} {m1 : List Addr} {H1 : Hp} {a : Addr} {n : Nat} {o : Obj} {kvs : List (Key × D)} {l : List (Key × V)} (hn : m1[n]? = some a) (h1 : H1 a = some (.frz o (.dK l))) (q : KR K m1 H1 kvs l) :
    Walks K cl m1 H1 (Itd a o l) (kvs.map fun kv => kv.2) (fun S => S[n]? = some (.fdct kvs)) := by
  refine ⟨fun m H S i le R g hi => ⟨le.frz _ _ _ h1, by rw [List.length_map] at hi; rw [← q.length]; exact hi⟩, fun m H S i d le R g hd => ?_⟩
  have key : ∀ (kvs : List (Key × D)) (l : List (Key × V)) (i : Nat), KR K m1 H1 kvs l → (kvs.map fun kv => kv.2)[i]? = some d → ∃ k v, l[i]? = some (k, v) ∧ RD K m1 H1 d v := by
    intro kvs
    induction kvs with
    | nil => intro l i q h; simp at h
    | cons p kvs ih =>
      intro l i q h
      cases q with
      | cons r q =>
        cases i with
        | zero =>
          cases h
          exact ⟨_, _, rfl, r⟩
        | succ i => exact ih _ i q h
  obtain ⟨k, v, hv, rv⟩ := key _ _ _ q hd
  have hlt : i < l.length := (List.getElem?_eq_some_iff.mp hv).1
  refine ⟨⟨le.frz _ _ _ h1, hlt⟩, fun x H' y => ?_⟩
  obtain ⟨e, k2, hk⟩ := y
  subst e
  rw [hv] at hk
  cases hk
  exact ⟨m, Le.refl m _, R, rv.mono le⟩
def lI (K : Fg) (cl : Cl) (F : Sem) (it : It) : TI := fun σ H R => ∃ m ρ S, RS K cl m H S ∧ RE K m H ρ σ ∧ wpIt F it ρ S (fun l G S1 => ∀ m1 H1 J, Le m H m1 H1 → RS K cl m1 H1 S1 → Walks K cl m1 H1 J l G → R J H1) (upX K cl)
theorem PI.mono {tg l : Expr} {t t' : TI} (h : PI X tg l t) (k : ∀ σ H R, t' σ H R → t σ H R) : PI X tg l t' := ⟨fun pins s σ H R I q => h.run pins s σ H R I (k σ H R q)⟩
theorem folded_not {x : Expr} {env : PySem.Env} (h : isSet x = false) (v : Value) : foldedSetIterable x env v = pure v := by
  cases x <;> first | rfl | cases h
end
end Mn
namespace Mn
open PySem PySem.Spec PyProof.Rows L2
section
variable {c : Cxt} {cl : Cl} {F : Sem} {X : Cx}
theorem RE.none {K : Fg} {m : List Addr} {H : Hp} {ρ : Env} {σ : L2.St} (r : RE K m H ρ σ) (i : Nat) : RE K m H (ρ.set i none) (σ.set i none) := by
  refine ⟨by rw [List.length_set, List.length_set]; exact r.len, fun j d e => ?_⟩
  by_cases h : j = i
  · subst h
    by_cases hl : j < ρ.length
    · rw [List.getElem?_set_self hl] at e; cases e
    · rw [List.getElem?_eq_none (by rw [List.length_set]; omega)] at e; cases e
  · rw [List.getElem?_set_ne (Ne.symm h)] at e ⊢
    exact r.at_ j d e
theorem RE.wiped {K : Fg} {m : List Addr} {H : Hp} {ρ : Env} {σ : L2.St} (r : RE K m H ρ σ) : ∀ vs : List Nat, RE K m H (wipeE ρ vs) (wipe σ vs)
  | [] => r
  | v :: vs => (RE.wiped r vs).none v
theorem le_stepN {K : Fg} {m : List Addr} {H : Hp} {S : Store} {Q : VK} (hF : SemMono F) (e : E) {σ : L2.St} {ρ : Env} {P : DK} (R : RS K cl.noE m H S) (re : RE K m H ρ σ) (h : wpE F e ρ S P noX)
    (k : ∀ d S' m' H' v, P d S' → Le m H m' H' → RS K cl.noE m' H' S' → RD K m' H' d v → RE K m' H' ρ σ → Q v H') : lE K cl.noE F e σ H Q := le_step hF e R re (wpE_mono hF e (fun _ _ z => z) (fun _ _ z => z.elim) h) k
theorem lc_snd {own : List Nat} {t : Tg} {it : It} {cd e : E} {tt : TT} {σ : L2.St} {H : Hp} {Q : VK} (hF : SemMono F) (hs : ∀ i ∈ t.slots, i ∈ own) (ht : ∀ σ H Q, tB (lE X.K cl.noE F cd) σ H Q → tt σ H Q)
    (h : lE X.K cl F (.lc own t it cd e) σ H Q) : tLc (lI X.K cl F it) (lG X.K cl.noE t) tt (lE X.K cl.noE F e) own σ H Q := by
  obtain ⟨m, ρ, S, R, re, q⟩ := h
  replace q : wpIt F it ρ S (fun l G S1 => wpLc t G (fun ρ S Q => wpE F cd ρ S Q noX) (fun ρ S Q => wpE F e ρ S Q noX) (fun S2 => up X.K cl m H Q (.ref S1.length) S2) S1.length (wipeE ρ own) l [] (S1 ++ [.lst []])) (upX X.K cl) := q
  refine ⟨m, ρ, S, R, re, wpIt_mono hF it (fun l G S1 q1 m1 H1 J le1 R1 wk D nD => ?_) (fun _ _ z => z) q⟩
  have R1' := R1.pushL nD (RDs.nil (K := X.K) (m := m1) (H := H1))
  have l1' : Le m1 H1 (m1 ++ [D]) (upd H1 D (.lst [])) := le_push nD
  have hD1 := R1.last D
  have rew := ((re.mono le1).mono l1').wiped own
  refine ⟨fun i k H' => ∃ m' S' acc, Le (m1 ++ [D]) (upd H1 D (.lst [])) m' H' ∧ RS X.K cl m' H' S' ∧ k = (l.drop i).length ∧ wpLc t G (fun ρ S Q => wpE F cd ρ S Q noX) (fun ρ S Q => wpE F e ρ S Q noX) (fun S2 => up X.K cl m H Q (.ref S1.length) S2) S1.length (wipeE ρ own) (l.drop i) acc S',
    ⟨_, _, _, [], Le.refl _ _, R1', rfl, q1⟩, fun i k H' hW => ?_⟩
  obtain ⟨m', S', acc, le', R', en, q'⟩ := hW
  by_cases hi : i < l.length
  · have ed : l.drop i = l[i] :: l.drop (i + 1) := List.drop_eq_getElem_cons hi
    rw [ed] at q' en
    obtain ⟨g, q2⟩ := q'
    obtain ⟨go, yld⟩ := wk.2 m' H' S' i l[i] (l1'.trans le') R' g (List.getElem?_eq_getElem hi)
    refine .inr ⟨go, fun H2 => ∃ m' S' acc, Le (m1 ++ [D]) (upd H1 D (.lst [])) m' H2 ∧ RS X.K cl m' H2 S' ∧ wpLc t G (fun ρ S Q => wpE F cd ρ S Q noX) (fun ρ S Q => wpE F e ρ S Q noX) (fun S2 => up X.K cl m H Q (.ref S1.length) S2) S1.length (wipeE ρ own) (l.drop (i + 1)) acc S', fun H2 hN => ?_, fun x H2 hx => ?_⟩
    · obtain ⟨m2, S2, acc2, a1, a2, a4⟩ := hN
      refine ⟨_, ?_, m2, S2, acc2, a1, a2, rfl, a4⟩
      rw [en, List.length_cons]
      omega
    · obtain ⟨m2, le2, R2, rd⟩ := yld x H2 hx
      split at q2
      · rename_i ρ2 e2
        refine lG_go R2.noE (rew.mono (le'.trans le2)) rd e2 fun m3 H3 σ3 le3 R3 re3 of3 => ⟨of3.wipe hs, ht _ _ _ ?_⟩
        refine le_stepN hF cd R3 re3 q2 fun x S4 m4 H4 v q3 le4 R4 rd4 re4 => ?_
        have l4 := ((le'.trans le2).trans le3).trans le4
        split at q3
        · refine ⟨true, bl_of rd4, (if_pos rfl).mpr (le_stepN hF e R4 re4 q3 fun y S5 m5 H5 v5 q5 le5 R5 rd5 re5 => ?_)⟩
          obtain ⟨g5, b5, q6⟩ := q5
          have hm := (l4.trans le5).pre _ _ hD1
          obtain ⟨vs, hD, qv⟩ := R5.at_ _ _ _ hm g5
          have hl := lim_le
          have := qv.length
          refine ⟨vs, hD, by omega, m5, S5.set S1.length (.lst (acc ++ [y])), acc ++ [y], (l4.trans le5).trans (le_set hD trivial), R5.ofE.set hm hD trivial ⟨_, upd_same, (qv.append (.cons rd5 .nil)).mono (le_set hD trivial)⟩, q6⟩
        · exact ⟨false, bl_of rd4, (if_neg Bool.false_ne_true).mpr ⟨m4, S4, acc, l4, R4.ofE, q3⟩⟩
        · exact q3.elim
      · exact q2.elim
  · rw [List.drop_eq_nil_of_le (by omega)] at q'
    exact .inl ⟨wk.1 m' H' S' i (l1'.trans le') R' q'.1 (by omega), q'.2 m' H' _ ((le1.trans l1').trans le') R' (.ref (le'.pre _ _ hD1))⟩
theorem lc2_snd {own own1 : List Nat} {t t1 : Tg} {it it1 : It} {e : E} {σ : L2.St} {H : Hp} {Q : VK} (hF : SemMono F) (hs : ∀ i ∈ t.slots, i ∈ own) (hs1 : ∀ i ∈ t1.slots, i ∈ own1)
    (h : lE X.K cl F (.lc2 own t it own1 t1 it1 e) σ H Q) : tLc2 (lI X.K cl F it) (lG X.K cl.noE t) tYes (lI X.K cl.noE F it1) (lG X.K cl.noE t1) tYes (lE X.K cl.noE F e) own own1 σ H Q := by
  obtain ⟨m, ρ, S, R, re, q⟩ := h
  replace q : wpIt F it ρ S (fun l G S1 => wpLc2 t G (fun ρ S R => wpIt F it1 ρ S R noX) t1 own1 (fun ρ S Q => wpE F e ρ S Q noX) (fun S2 => up X.K cl m H Q (.ref S1.length) S2) S1.length (wipeE ρ own) l [] (S1 ++ [.lst []])) (upX X.K cl) := q
  refine ⟨m, ρ, S, R, re, wpIt_mono hF it (fun l G S1 q1 m1 H1 J le1 R1 wk D nD => ?_) (fun _ _ z => z) q⟩
  have R1' := R1.pushL nD (RDs.nil (K := X.K) (m := m1) (H := H1))
  have l1' : Le m1 H1 (m1 ++ [D]) (upd H1 D (.lst [])) := le_push nD
  have hD1 := R1.last D
  have rew := ((re.mono le1).mono l1').wiped own
  refine ⟨fun i k H' => ∃ m' S' acc, Le (m1 ++ [D]) (upd H1 D (.lst [])) m' H' ∧ RS X.K cl m' H' S' ∧ k = (l.drop i).length ∧ wpLc2 t G (fun ρ S R => wpIt F it1 ρ S R noX) t1 own1 (fun ρ S Q => wpE F e ρ S Q noX) (fun S2 => up X.K cl m H Q (.ref S1.length) S2) S1.length (wipeE ρ own) (l.drop i) acc S',
    ⟨_, _, _, [], Le.refl _ _, R1', rfl, q1⟩, fun i k H' hW => ?_⟩
  obtain ⟨m', S', acc, le', R', en, q'⟩ := hW
  by_cases hi : i < l.length
  · have ed : l.drop i = l[i] :: l.drop (i + 1) := List.drop_eq_getElem_cons hi
    rw [ed] at q' en
    obtain ⟨g, q2⟩ := q'
    obtain ⟨go, yld⟩ := wk.2 m' H' S' i l[i] (l1'.trans le') R' g (List.getElem?_eq_getElem hi)
    refine .inr ⟨go, fun H2 => ∃ m' S' acc, Le (m1 ++ [D]) (upd H1 D (.lst [])) m' H2 ∧ RS X.K cl m' H2 S' ∧ wpLc2 t G (fun ρ S R => wpIt F it1 ρ S R noX) t1 own1 (fun ρ S Q => wpE F e ρ S Q noX) (fun S2 => up X.K cl m H Q (.ref S1.length) S2) S1.length (wipeE ρ own) (l.drop (i + 1)) acc S', fun H2 hN => ?_, fun x H2 hx => ?_⟩
    · obtain ⟨m2, S2, acc2, a1, a2, a4⟩ := hN
      refine ⟨_, ?_, m2, S2, acc2, a1, a2, rfl, a4⟩
      rw [en, List.length_cons]
      omega
    · obtain ⟨m2, le2, R2, rd⟩ := yld x H2 hx
      split at q2
      · rename_i ρ2 e2
        refine lG_go R2.noE (rew.mono (le'.trans le2)) rd e2 fun m3 H3 σ3 le3 R3 re3 of3 => ⟨of3.wipe hs, ?_⟩
        unfold tYes
        dsimp only
        rw [if_pos rfl]
        refine ⟨m3, ρ2, S', R3, re3, wpIt_mono hF it1 (fun l1 G1 S4 q3 m4 H4 J1 le4 R4 wk1 => ?_) (fun _ _ z => z.elim) q2⟩
        have rew1 := (re3.mono le4).wiped own1
        have l4 := ((le'.trans le2).trans le3).trans le4
        refine ⟨fun j k H5 => ∃ m5 S5 acc5, Le m4 H4 m5 H5 ∧ RS X.K cl.noE m5 H5 S5 ∧ k = (l1.drop j).length ∧ wpLc1 t1 G1 (fun ρ S Q => wpE F e ρ S Q noX) S1.length (wipeE ρ2 own1) (fun acc' S' => wpLc2 t G (fun ρ S R => wpIt F it1 ρ S R noX) t1 own1 (fun ρ S Q => wpE F e ρ S Q noX) (fun S2 => up X.K cl m H Q (.ref S1.length) S2) S1.length (wipeE ρ own) (l.drop (i + 1)) acc' S') (l1.drop j) acc5 S5, ⟨_, m4, S4, acc, Le.refl _ _, R4, rfl, q3⟩, fun j k H5 hW1 => ?_⟩
        obtain ⟨m5, S5, acc5, le5, R5, en1, q5⟩ := hW1
        by_cases hj : j < l1.length
        · have ed1 : l1.drop j = l1[j] :: l1.drop (j + 1) := List.drop_eq_getElem_cons hj
          rw [ed1] at q5 en1
          obtain ⟨g5, q6⟩ := q5
          obtain ⟨go1, yld1⟩ := wk1.2 m5 H5 S5 j l1[j] le5 R5 g5 (List.getElem?_eq_getElem hj)
          refine .inr ⟨go1, fun H6 => ∃ m6 S6 acc6, Le m4 H4 m6 H6 ∧ RS X.K cl.noE m6 H6 S6 ∧ wpLc1 t1 G1 (fun ρ S Q => wpE F e ρ S Q noX) S1.length (wipeE ρ2 own1) (fun acc' S' => wpLc2 t G (fun ρ S R => wpIt F it1 ρ S R noX) t1 own1 (fun ρ S Q => wpE F e ρ S Q noX) (fun S2 => up X.K cl m H Q (.ref S1.length) S2) S1.length (wipeE ρ own) (l.drop (i + 1)) acc' S') (l1.drop (j + 1)) acc6 S6, fun H6 hN => ?_, fun y H6 hy => ?_⟩
          · obtain ⟨m6, S6, acc6, a1, a2, a3⟩ := hN
            refine ⟨_, ?_, m6, S6, acc6, a1, a2, rfl, a3⟩
            rw [en1, List.length_cons]
            omega
          · obtain ⟨m6, le6, R6, rd6⟩ := yld1 y H6 hy
            split at q6
            · rename_i ρ3 e3
              refine lG_go R6 (rew1.mono (le5.trans le6)) rd6 e3 fun m7 H7 σ7 le7 R7 re7 of7 => ⟨of7.wipe hs1, ?_⟩
              dsimp only
              rw [if_pos rfl]
              refine le_stepN hF e R7 re7 q6 fun z S8 m8 H8 v8 q8 le8 R8 rd8 re8 => ?_
              obtain ⟨g8, b8, q9⟩ := q8
              have l8 := (((l4.trans le5).trans le6).trans le7).trans le8
              have hm := l8.pre _ _ hD1
              obtain ⟨vs, hD, qv⟩ := R8.at_ _ _ _ hm g8
              have hl := lim_le
              have := qv.length
              exact ⟨vs, hD, by omega, m8, S8.set S1.length (.lst (acc5 ++ [z])), acc5 ++ [z], (((le5.trans le6).trans le7).trans le8).trans (le_set hD trivial), R8.set hm hD trivial ⟨_, upd_same, (qv.append (.cons rd8 .nil)).mono (le_set hD trivial)⟩, q9⟩
            · exact q6.elim
        · have e0 : l1.drop j = [] := List.drop_eq_nil_of_le (by omega)
          rw [e0] at q5
          exact .inl ⟨wk1.1 m5 H5 S5 j le5 R5 q5.1 (by omega), m5, S5, acc5, l4.trans le5, R5.ofE, q5.2⟩
      · exact q2.elim
  · rw [List.drop_eq_nil_of_le (by omega)] at q'
    exact .inl ⟨wk.1 m' H' S' i (l1'.trans le') R' q'.1 (by omega), q'.2 m' H' _ ((le1.trans l1').trans le') R' (.ref (le'.pre _ _ hD1))⟩
theorem KR.put {K : Fg} {m : List Addr} {H : Hp} {l : List (Key × D)} {kvs : List (Key × V)} {k : Key} {d : D} {v : V} (r : KR K m H l kvs) (rd : RD K m H d v) : KR K m H (dPut l k d) (putK kvs k v) := by
  unfold dPut putK
  rw [r.any k]
  split
  · exact r.upd rd
  · exact r.append (.cons rd .nil)
theorem dc_snd {own : List Nat} {t : Tg} {it : It} {kd e : E} {σ : L2.St} {H : Hp} {Q : VK} (hF : SemMono F) (hs : ∀ i ∈ t.slots, i ∈ own)
    (h : lE X.K cl F (.dc own t it kd e) σ H Q) : tDc (lI X.K cl F it) (lG X.K cl.noE t) tYes (lE X.K cl.noE F kd) (lE X.K cl.noE F e) own σ H Q := by
  obtain ⟨m, ρ, S, R, re, q⟩ := h
  replace q : wpIt F it ρ S (fun l G S1 => wpDc t G (fun ρ S Q => wpE F kd ρ S Q noX) (fun ρ S Q => wpE F e ρ S Q noX) (fun S2 => up X.K cl m H Q (.ref S1.length) S2) S1.length (wipeE ρ own) l [] (S1 ++ [.dct []])) (upX X.K cl) := q
  refine ⟨m, ρ, S, R, re, wpIt_mono hF it (fun l G S1 q1 m1 H1 J le1 R1 wk D nD => ?_) (fun _ _ z => z) q⟩
  have l1' : Le m1 H1 (m1 ++ [D]) (upd H1 D (.dK [])) := le_push nD
  have R1' : RS X.K cl (m1 ++ [D]) (upd H1 D (.dK [])) (S1 ++ [.dct []]) := R1.push nD ⟨[], upd_same, .nil⟩
  have hD1 := R1.last D
  have rew := ((re.mono le1).mono l1').wiped own
  refine ⟨fun i k H' => ∃ m' S' acc, Le (m1 ++ [D]) (upd H1 D (.dK [])) m' H' ∧ RS X.K cl m' H' S' ∧ k = (l.drop i).length ∧ wpDc t G (fun ρ S Q => wpE F kd ρ S Q noX) (fun ρ S Q => wpE F e ρ S Q noX) (fun S2 => up X.K cl m H Q (.ref S1.length) S2) S1.length (wipeE ρ own) (l.drop i) acc S',
    ⟨_, _, _, [], Le.refl _ _, R1', rfl, q1⟩, fun i k H' hW => ?_⟩
  obtain ⟨m', S', acc, le', R', en, q'⟩ := hW
  by_cases hi : i < l.length
  · have ed : l.drop i = l[i] :: l.drop (i + 1) := List.drop_eq_getElem_cons hi
    rw [ed] at q' en
    obtain ⟨g, q2⟩ := q'
    obtain ⟨go, yld⟩ := wk.2 m' H' S' i l[i] (l1'.trans le') R' g (List.getElem?_eq_getElem hi)
    refine .inr ⟨go, fun H2 => ∃ m' S' acc, Le (m1 ++ [D]) (upd H1 D (.dK [])) m' H2 ∧ RS X.K cl m' H2 S' ∧ wpDc t G (fun ρ S Q => wpE F kd ρ S Q noX) (fun ρ S Q => wpE F e ρ S Q noX) (fun S2 => up X.K cl m H Q (.ref S1.length) S2) S1.length (wipeE ρ own) (l.drop (i + 1)) acc S', fun H2 hN => ?_, fun x H2 hx => ?_⟩
    · obtain ⟨m2, S2, acc2, a1, a2, a4⟩ := hN
      refine ⟨_, ?_, m2, S2, acc2, a1, a2, rfl, a4⟩
      rw [en, List.length_cons]
      omega
    · obtain ⟨m2, le2, R2, rd⟩ := yld x H2 hx
      split at q2
      · rename_i ρ2 e2
        refine lG_go R2.noE (rew.mono (le'.trans le2)) rd e2 fun m3 H3 σ3 le3 R3 re3 of3 => ⟨of3.wipe hs, ?_⟩
        unfold tYes
        dsimp only
        rw [if_pos rfl]
        refine le_stepN hF kd R3 re3 q2 fun x S4 m4 H4 v q3 le4 R4 rd4 re4 => ?_
        have l4 := ((le'.trans le2).trans le3).trans le4
        split at q3
        · rename_i k ek
          refine le_stepN hF e R4 re4 q3 fun y S5 m5 H5 v5 q5 le5 R5 rd5 re5 => ?_
          obtain ⟨g5, b5, q6⟩ := q5
          have hm := (l4.trans le5).pre _ _ hD1
          obtain ⟨vs, hD, qv⟩ := R5.at_ _ _ _ hm g5
          have hl := lim_le
          have := qv.length
          refine ⟨vs, k, key_of_rd rd4 ek, hD, by omega, m5, S5.set S1.length (.dct (dPut acc k y)), dPut acc k y, (l4.trans le5).trans (le_set hD trivial), R5.ofE.set hm hD trivial ⟨_, upd_same, (qv.put rd5).mono (le_set hD trivial)⟩, q6⟩
        · exact q3.elim
      · exact q2.elim
  · rw [List.drop_eq_nil_of_le (by omega)] at q'
    exact .inl ⟨wk.1 m' H' S' i (l1'.trans le') R' q'.1 (by omega), q'.2 m' H' _ ((le1.trans l1').trans le') R' (.ref (le'.pre _ _ hD1))⟩
theorem XOk.blk (ok : XOk c cl F X) {scope : Scope} (s : Shared) (H : Hp) (C : Addr) (cs : List (Str × Addr)) (fp : List Addr) : XOk (inBlk c scope) cl.noE F (X.blk s H scope (compEnvC scope cs C X.env) fp) where
  N := ok.N
  nd := ok.nd
  sc := by
    show relS scope X.env.scope = relS scope c.sc
    rw [ok.sc]
  calm := ok.calm
  units := ok.units
  tg := fun h => by cases h
  fns := fun p hp => ⟨(ok.fns p hp).ex⟩
  flds := ok.flds
  mts := fun k m f ar h => ⟨(ok.mts k m f ar h).ex⟩
  mks := fun x k f ar h => ⟨(ok.mks x k f ar h).ex⟩
  csts := ok.csts
  gds := ok.gds
  free := ok.free
  pas := passL
  excs := ok.excs
  tld := fun _ _ z => nomatch z
  lamt := fun z => nomatch z
  mtk := fun p h => ⟨(ok.mtk p h).ex⟩
  lens := fun k f h => ⟨(ok.lens k f h).ex⟩
end
end Mn
namespace Mn
open PySem PySem.Spec PyProof.Rows L2
theorem base_not {o : Expr} {f : Str} {env : PySem.Env} {w : PySem.Sem Value} (h : isCall o = false) : attributeBase o f env w = w := by
  cases o <;> first | rfl | cases h
theorem few_of {xs : List Expr} {env : PySem.Env} {pos : Pos} (st : ∀ x ∈ xs, starred x = false) : (backTo pos (starEach xs env)).all (fun x => !x.1) = true := by
  have h := star_any (env := env) (pos := pos) st
  rw [List.all_eq_not_any_not]
  simpa using h
theorem form_of {xs : List Expr} {env : PySem.Env} {pos : Pos} (st : ∀ x ∈ xs, starred x = false) (hl : xs.length < 30) :
    ((backTo pos (starEach xs env)).all (fun x => !x.1) && (backToKw pos (keywordEach [] env)).all (fun x => x.1.isSome) && decide (xs.length + ([] : List Keyword).length + (if ([] : List Keyword).isEmpty then 0 else 1) < 30)) = true := by
  rw [few_of st]
  show (true && true && decide (xs.length + 0 + 0 < 30)) = true
  simpa using hl
theorem mform_of {xs : List Expr} {env : PySem.Env} {pos : Pos} (st : ∀ x ∈ xs, starred x = false) (hl : xs.length < 30) : methodCallForm (xs.length + ([] : List Keyword).length) (backTo pos (starEach xs env)) (backToKw pos (keywordEach [] env)) = true := by
  unfold methodCallForm
  rw [few_of st]
  show (true && true && decide (xs.length + 0 + 0 < 30)) = true
  simpa using hl
theorem meth_eval {o : Expr} {m : Str} {apos pos : Pos} {xs : List Expr} {env : PySem.Env} (ho : isCall o = false) (st : ∀ x ∈ xs, starred x = false) (hl : xs.length < 30) (hp : (apos.endLine == pos.line) = true) :
    eval (.Call (.Attribute o m apos) xs [] pos) env = (do
      let ov ← eval o env
      standAt apos.atName
      let (f, first) ← holding [ov] (getMethod ov m (do return (← importBound o env).getD true))
      callWith pos f first (backTo pos (starEach xs env)) (backToKw pos (keywordEach [] env))) := by
  refine mcall_of (base_not ho) fun ov => ?_
  unfold methodCall
  rw [mform_of st hl]
  unfold calleeOf methodCallPos
  rw [hp]
  rfl
theorem methK_eval {o : Expr} {m : Str} {apos pos : Pos} {xs : List Expr} {kws : List Keyword} {env : PySem.Env} (ho : isCall o = false) (st : ∀ x ∈ xs, starred x = false) (hk : ((backToKw pos (keywordEach kws env)).all fun x => x.1.isSome) = true) (hl : xs.length + kws.length < 20) (hp : (apos.endLine == pos.line) = true) :
    eval (.Call (.Attribute o m apos) xs kws pos) env = (do
      let ov ← eval o env
      standAt apos.atName
      let (f, first) ← holding [ov] (getMethod ov m (do return (← importBound o env).getD true))
      callWith pos f first (backTo pos (starEach xs env)) (backToKw pos (keywordEach kws env))) := by
  refine mcall_of (base_not ho) fun ov => ?_
  have hf : methodCallForm (xs.length + kws.length) (backTo pos (starEach xs env)) (backToKw pos (keywordEach kws env)) = true := by
    unfold methodCallForm
    rw [few_of st, hk]
    simp
    split <;> omega
  unfold methodCall
  rw [hf]
  unfold calleeOf methodCallPos
  rw [hp]
  rfl
def tMethN (C : Addr) (m : Str) (n k : Nat) (sp : Sp) (gV : List V → List V → List V) (E : L2.XK) (ta : TE) (t tk : TA) : TE := fun σ H Q => ta σ H fun x H1 => ∃ a dx fs, x = .ref a ∧ H1 a = some (.ins C dx fs) ∧ fs.lookup m = none ∧
  t σ H1 fun vs H2 => tk σ H2 fun zs H3 => vs.length + 1 = n ∧ zs.length = k ∧ sp (gV (x :: vs) zs) H3 Q E
theorem pe_methN {X : Cx} {CX : CXT} {k n : Nat} {f C : Addr} {fd : FuncData} {ps ks : List Str} {sp : Sp} {E : L2.XK} {m : Str} {pos apos : Pos} {e o : Expr} {es : List Expr} {kws : List Keyword} {ta : TE} {t tk : TA} {g : List Value → List Value → List Value} {gV : List V → List V → List V} {pl : PySem.Sem Bool}
    (O : PE X o ta) (c : Cls X.K C) (hm : Meth X.K C m f) (F : FnOk X.prog X.w X.K X.mg X.base CX k f fd ps sp) (hr : Room k X.A) (hkp : PySem.W.keepIn X.K (.ref f) = true) (hb : KBn X.K fd ps n ks g gV) (hx : Passes CX X E) (A : PA X (e :: es) t) (B : PK X kws tk)
    (hk : ((backToKw pos (keywordEach kws X.env)).all fun x => x.1.isSome) = true) (hn : List.filterMap (fun x => x.1) (backToKw pos (keywordEach kws X.env)) = ks)
    (st : starEach (e :: es) X.env = (false, eval e X.env) :: starEach es X.env) (sn : (((backTo pos (starEach (e :: es) X.env)).any fun x => x.1) || (backToKw pos (keywordEach kws X.env)).any fun x => x.1.isNone) = false)
    (he : eval (.Call (.Attribute o m apos) (e :: es) kws pos) X.env = (do
      let ov ← eval o X.env
      standAt apos.atName
      let (f, first) ← holding [ov] (getMethod ov m pl)
      callWith pos f first (backTo pos (starEach (e :: es) X.env)) (backToKw pos (keywordEach kws X.env)))) :
    PE X (.Call (.Attribute o m apos) (e :: es) kws pos) (tMethN C m n ks.length sp gV E ta t tk) := by
  refine ⟨fun pins s σ H Q I h => ?_⟩
  refine PySem.W.methodCall_KW (pl := pl) (thn (O.run pins s σ H _ I h) fun u s1 ⟨x, H1, I1, rx, a, dx, fs, ex, hi, hno, q⟩ => ?_) he
  subst ex
  obtain rfl : u = Value.ref a := rx
  refine getmeth_ok I1 hi c hm hno ?_
  refine PySem.W.callWith_KW I1.kIn hkp hk (thn (A.run pos pins s1 σ H1 _ I1 q) fun us s2 q2 => ?_) sn st
  obtain ⟨vs, H2, I2, rv, q2⟩ := q2
  refine thn (B.run pos pins s2 σ H2 _ I2 q2) fun ws s3 q3 => ?_
  obtain ⟨zs, H3, I3, rz, hv, hz, q3⟩ := q3
  refine ⟨I3.kIn, ?_⟩
  rw [hn]
  exact run_fnN F hr hb hx I3 (.cons (show RelV (.ref a) (.ref a) from rfl) rv) rz hv hz q3
theorem call_lenO {X : Cx} {CX : CXT} {k : Nat} {f C a dx : Addr} {fs : List (Str × V)} {fd : FuncData} {ps : List Str} {sp : Sp} {E : L2.XK} {pins : List (Addr × Obj)} {σ : L2.St} {s : Shared} {H : Hp} {Q : VK}
    (F : FnOk X.prog X.w X.K X.mg X.base CX k f fd ps sp) (hr : Room (k + 1) X.A) (hm : Meth X.K C "__len__" f) (hb : Binds X.K fd ps []) (hx : Passes CX X E) (I : Inv X pins σ H s) (e : H a = some (.ins C dx fs))
    (h : sp [.ref a] H (fun v H' => ∃ n : Int, v = .int n ∧ 0 ≤ n ∧ n < 2 ^ 63 ∧ Q (.int n) H') E) :
    wpAny (model X.prog X.w) X.A (call (.builtin "len") [.ref a]) (EP X pins σ Q) X.xe s := by
  refine Calls.call_function_entry kind_len plain_len entry_len (args_len1 _) ?_
  unfold Builtin.«len»
  refine wpAny_bind (m := PySem.oneArg "len" _) (wpAny_pure ?_)
  obtain ⟨mA, O, _, _, _, _⟩ := ins_get I.hok e
  obtain ⟨od, J, _⟩ := O.look
  refine wpAny_bind (m := callSpecial? (.ref a) (Str.ofString "__len__")) (PySem.W.special_fn I.kIn J hm.at_ (beq_iff_eq.mp hm.fn) ?_)
  have hl : [Value.ref a].length = ps.length := by
    have := F.len _ _ _ _ h
    exact this
  have b := hb s [.ref a] I.kIn (by rw [List.append_nil]; exact hl)
  rw [List.append_nil] at b
  refine wpAny_call (codeAny_mono (F.run X.A.in1 X.stack s H ⟨[.ref a], []⟩ [.ref a] [.ref a] _ E hr.in1 I.env0.in1 b (.cons (show RelV (.ref a) (.ref a) from rfl) .nil) h) fun r s' hq => ?_)
  cases r with
  | error e => exact hx pins σ H s e s' I hq
  | ok fl =>
    cases fl with
    | ret u =>
      obtain ⟨v, H', I', rv, n, rfl, h0, h1, q⟩ := I.after hq
      obtain ⟨t, rfl⟩ := rv
      refine wpAny_bind (wpAny_holding (wpAny_pure ?_))
      refine wpAny_bind (wpAny_letGo ?_)
      show wpAny _ _ (if n < 0 then _ else _) _ _ _
      rw [if_neg (by omega)]
      show wpAny _ _ (if n ≥ 2 ^ 63 then _ else _) _ _ _
      rw [if_neg (by omega)]
      exact wpAny_bind (wpAny_mkInt (wpAny_pure ⟨_, rfl, .int n, H', I'.tok _, ⟨_, rfl⟩, q⟩))
    | next => exact False.elim hq
    | brk => exact False.elim hq
    | cont => exact False.elim hq
section
variable {c : Cxt} {cl : Cl} {F : Sem} {X : Cx}
theorem nilA {K : Fg} {σ : L2.St} {H : Hp} {Q : List V → Hp → Prop} (h : lA K cl F .nil σ H Q) : tNil σ H Q := by
  obtain ⟨m, ρ, S, R, re, q⟩ := h
  exact q m H [] (Le.refl m H) R .nil
theorem RD.ins {K : Fg} {m : List Addr} {H : Hp} {S : Store} {d : D} {v : V} {k : Nat} {fs : List (Str × D)} (R : RS K cl m H S) (r : RD K m H d v) (e : inst? S d = some (k, fs)) :
    ∃ n a C dx gs, d = .ref n ∧ m[n]? = some a ∧ v = .ref a ∧ S[n]? = some (.ins k fs) ∧ cl k = some C ∧ H a = some (.ins C dx gs) ∧ KR K m H fs gs := by
  cases r with
  | ref hm =>
    unfold inst? at e
    dsimp only at e
    split at e
    · rename_i c' fs' g
      cases e
      obtain ⟨C, dx, gs, h1, h2, h3⟩ := R.at_ _ _ _ hm g
      exact ⟨_, _, C, dx, gs, rfl, hm, rfl, g, h1, h2, h3⟩
    · cases e
  | _ => cases e
theorem rds_rng {K : Fg} {m : List Addr} {H : Hp} (n : Int) : RDs K m H (rngL 0 n) (rgV 0 n) := by
  unfold rngL rgV
  generalize List.range (n - 0).toNat = l
  induction l with
  | nil => exact .nil
  | cons a l ih => exact .cons (.int _) ih
theorem recv_ty {K : Fg} {m : List Addr} {H : Hp} {S : Store} {b : Bm} {d : D} {v : V} (R : RS K cl m H S) (r : RD K m H d v) (h : recv b d S = true) : tyV K (bmT b).1 v H := by
  have hl : (lq? S d).isSome = true → tyV K "list" v H := fun e => by
    cases q : lq? S d with
    | none => rw [q] at e; cases e
    | some l =>
      obtain ⟨a, vs, rfl, hq, _⟩ := r.lq R q
      exact .inl ⟨rfl, vs, hq⟩
  have hd : (dct? S d).isSome = true → tyV K "dict" v H := fun e => by
    cases q : dct? S d with
    | none => rw [q] at e; cases e
    | some l =>
      obtain ⟨n, a, kvs, rfl, hm, rfl, g, h1, _⟩ := r.dct R q
      exact .inr (.inr (.inl ⟨rfl, .inl ⟨kvs, h1⟩⟩))
  cases b <;> first | exact hl h | exact hd h | skip
  unfold recv at h
  dsimp only at h
  split at h
  · cases r; exact rfl
  · cases h
theorem mt_all (ok : XOk c cl F X) (b : Bm) : MtR X (bmT b).2.2 (rBm X.K cl b) := by
  cases b with
  | append => exact bm_append
  | pop => exact bm_pop
  | popAt => exact bm_popAt
  | insert => exact bm_insert
  | remove => exact bm_remove
  | remd => exact bm_remd ok.units
  | index => exact bm_index
  | get1 => exact bm_get1 ok.units
  | get2 => exact bm_get2 ok.units
  | dpop => exact bm_dpop
  | bitlen => exact bm_bits
theorem pa_all (b : Bm) : PlainAttrs (bmT b).1 := by
  cases b with
  | append => exact PySem.F.plainAttrs_list
  | pop => exact PySem.F.plainAttrs_list
  | popAt => exact PySem.F.plainAttrs_list
  | insert => exact PySem.F.plainAttrs_list
  | remove => exact PySem.F.plainAttrs_list
  | remd => exact PySem.F.plainAttrs_list
  | index => exact PySem.F.plainAttrs_list
  | get1 => exact PySem.F.plainAttrs_dict
  | get2 => exact PySem.F.plainAttrs_dict
  | dpop => exact PySem.F.plainAttrs_dict
  | bitlen => exact PySem.F.plainAttrs_int
theorem slot_all (b : Bm) : Slot (bmT b).1 ((bmT b).2.1 : Str) (bmT b).2.2 := by
  cases b with
  | append => exact PySem.F.slot_list_append
  | pop => exact PySem.F.slot_list_pop
  | popAt => exact PySem.F.slot_list_pop
  | insert => exact PySem.F.slot_list_insert
  | remove => exact PySem.F.slot_list_remove
  | remd => exact PySem.F.slot_list_remove
  | index => exact PySem.F.slot_list_index
  | get1 => exact PySem.F.slot_dict_get
  | get2 => exact PySem.F.slot_dict_get
  | dpop => exact PySem.F.slot_dict_pop
  | bitlen => exact PyProof.Rows.slot_int_bit_length
theorem type_all (b : Bm) : typeOf (.builtin (bmT b).2.2) = pure (.type "method_descriptor") := by
  cases b with
  | append => exact PySem.F.type_list_append
  | pop => exact PySem.F.type_list_pop
  | popAt => exact PySem.F.type_list_pop
  | insert => exact PySem.F.type_list_insert
  | remove => exact PySem.F.type_list_remove
  | remd => exact PySem.F.type_list_remove
  | index => exact PySem.F.type_list_index
  | get1 => exact PySem.F.type_dict_get
  | get2 => exact PySem.F.type_dict_get
  | dpop => exact PySem.F.type_dict_pop
  | bitlen => exact PyProof.Rows.type_int_bit_length
def rRng (neg : Bool) : R2 := fun x y H Q => ∃ i a lo hi, x = .int i ∧ y = .ref a ∧ H a = some (.rng lo hi) ∧ Q (.bl (if neg then !decide (lo ≤ i ∧ i < hi) else decide (lo ≤ i ∧ i < hi))) H
theorem op_rng (neg : Bool) : OpR X (compareOp (if neg then .NotIn else .In)) (rRng neg) := by
  cases neg with
  | false => exact fun pins s σ H x y v u Q I rx ry h => op_in_rng pins s σ H x y v u Q I rx ry h
  | true =>
    intro pins s σ H x y v u Q I rx ry ⟨i, a, lo, hi, e1, e2, h, q⟩
    have h1 := op_in_rng pins s σ H x y v u (fun w H' => w = .bl (decide (lo ≤ i ∧ i < hi)) ∧ H' = H) I rx ry ⟨i, a, lo, hi, e1, e2, h, rfl, rfl⟩
    intro Γ p hΓ
    have h2 := h1 Γ p hΓ
    show Sem.wp _ Γ (contains u v >>= fun r => pure (Value.bool !r)) _ _ p s
    have h2 : Sem.wp (model X.prog X.w) Γ (contains u v >>= fun r => pure (Value.bool r)) (fun a _ s' => EP X pins σ (fun w H' => w = .bl (decide (lo ≤ i ∧ i < hi)) ∧ H' = H) a s') (fun e _ s' => X.xe e s') p s := h2
    rw [Sem.wp_bind'] at h2 ⊢
    refine Sem.wp_mono _ _ _ (fun r p' s' h3 => ?_) (fun _ _ _ z => z) p s h2
    have h3 : EP X pins σ (fun w H' => w = .bl (decide (lo ≤ i ∧ i < hi)) ∧ H' = H) (.bool r) s' := h3
    obtain ⟨w, H', I', rw', e, eH⟩ := h3
    subst e eH
    have er : Value.bool r = Value.bool (decide (lo ≤ i ∧ i < hi)) := rw'
    cases er
    show EP X pins σ Q (.bool (!decide (lo ≤ i ∧ i < hi))) s'
    exact ⟨.bl (!decide (lo ≤ i ∧ i < hi)), _, I', rfl, q⟩
theorem pe_rng2 (ok : XOk c cl F X) {r : Str} {p pos : Pos} {y z : Expr} {ta tb : TE} (hr : c.bltn r "range" = true) (A : PE X y ta) (B : PE X z tb) (sy : starred y = false) (sz : starred z = false) :
    PE X (.Call (.Name r p) [y, z] [] pos) (tCB (fun vs H Q => ∃ i j, vs = [V.int i, V.int j] ∧ ∀ (p : Addr), H p = none → Q (V.ref p) (upd H p (HO.rng i j))) (tCons ta (tCons tb tNil))) := by
  obtain ⟨er, j1, j2, j3, j4⟩ := bltn_of ok hr
  subst er
  exact pe_callTy cr_range2 j1 j2 PyProof.Rows.boot_range (pa_cons A (pa_cons B pa_nil (star_not sz)) (star_not sy)) j3 j4 (star_not sy) (star_any fun w hw => by rw [List.mem_singleton.mp hw]; exact sz)
theorem inR_v (hF : SemMono F) {neg : Bool} {e a b : E} {σ : L2.St} {H : Hp} {Q : VK} (w : lE X.K cl F (.inR neg e a b) σ H Q) : tOp (rRng neg) (lE X.K cl F e) (tCB (fun vs H Q => ∃ i j, vs = [V.int i, V.int j] ∧ ∀ (p : Addr), H p = none → Q (V.ref p) (upd H p (HO.rng i j))) (tCons (lE X.K cl F a) (tCons (lE X.K cl F b) tNil))) σ H Q := by
  obtain ⟨m, ρ, S, R, re, w⟩ := w
  refine le_step hF e R re w fun d S1 m1 H1 v w le R1 rd re1 => le_step hF a R1 re1 w fun d2 S2 m2 H2 v2 w2 le2 R2 rd2 re2 => le_step hF b R2 re2 w2 fun d3 S3 m3 H3 v3 w3 le3 R3 rd3 re3 => ?_
  unfold inRD at w3
  split at w3
  · cases rd
    cases rd2
    cases rd3
    refine ⟨_, _, rfl, fun p np => ⟨_, p, _, _, rfl, rfl, upd_same, w3 m3 _ _ (((le.trans le2).trans le3).trans (le_new np)) (R3.new np) (.bl _)⟩⟩
  · exact w3.elim
theorem pe_set2 (hF : SemMono F) (ok : XOk c cl F X) {x r : Str} {n : String} {p p2 q pos : Pos} {y : Expr} {e : E} {b : Bt}
    (hb : ∀ {pins : List (Addr × Obj)} {σ : L2.St} {s : Shared} {H : Hp} {m : List Addr} {S : Store} {d : D} {x : V} {u : Value} {Q : VK}, Inv X pins σ H s → RS X.K cl m H S → RD X.K m H d x → RelV x u → bt b [d] S (up X.K cl m H Q) →
      wpAny (model X.prog X.w) X.A (call (.type "set") [u]) (fun w s1 => wpAny (model X.prog X.w) X.A (call (.builtin n) [w]) (EP X pins σ Q) X.xe s1) X.xe s)
    (hx : c.bltn x n = true) (hr : c.bltn r "set" = true) (hv : bootBuiltins (n : Str) = some (.builtin n)) (A : PE X y (lE X.K cl F e)) (sy : starred y = false) :
    PE X (.Call (.Name x p) [.Call (.Name r p2) [y] [] q] [] pos) (lE X.K cl F (.blt b (.cons e .nil))) := by
  obtain ⟨ex, g1, g2, g3, g4⟩ := bltn_of ok hx
  obtain ⟨er, j1, j2, j3, j4⟩ := bltn_of ok hr
  subst ex er
  refine ⟨fun pins s σ H Q I h => ?_⟩
  obtain ⟨m, ρ, S, R, re, h⟩ := h
  refine Call_ (ld_blt I g1 g2 hv ?_ g3 g4)
  refine PyProof.Rows.callWith_builtin1 (PyProof.Rows.args_cons ?_ rfl) rfl rfl
  refine Call_ (ld_blt I j1 j2 PyProof.Rows.boot_set ?_ j3 j4)
  have st := star_not (env := X.env) (es := []) sy
  refine PyProof.Rows.callWith_type1 (PyProof.Rows.args_cons (thn (A.run pins s σ H _ I (le_step hF e R re h fun d S1 m1 H1 v q le R1 rd re1 =>
    (⟨m1, S1, d, R1, rd, bt_mono (fun _ _ => up_le le) (show bt b [d] S1 (up X.K cl m H Q) from q)⟩ : ∃ m1 S1 d, RS X.K cl m1 H1 S1 ∧ RD X.K m1 H1 d v ∧ bt b [d] S1 (up X.K cl m1 H1 Q)))) fun u s1 ⟨v, H1, I1, r1, m1, S1, d, R1, rd, q1⟩ => PyProof.Rows.args_nil ?_) st) st rfl
  exact wpAny_mono (hb I1 R1 rd r1 q1) (fun w s2 q2 => PyProof.Rows.args_nil q2) fun _ _ z => z
def rInP (neg : Bool) : R2 := fun x y H Q => ∃ (b a : Addr) (kvs : List (List Key × V)) (k : List Key), x = .ref b ∧ y = .ref a ∧ H a = some (.dT kvs) ∧ H b = some (.tup (k.map kV)) ∧ Q (.bl (if neg then !(L2.valV kvs k).isSome else (L2.valV kvs k).isSome)) H
theorem op_inP (neg : Bool) (hu : X.A.units + 650 < cLine) : OpR X (compareOp (if neg then .NotIn else .In)) (rInP neg) := by
  intro pins s σ H x y v u Q I rx ry ⟨b, a, kvs, k, e1, e2, h1, h2, q⟩
  subst e1 e2
  cases ry
  cases neg with
  | false => exact d_in (by omega) I (DGet.t h1 h2) rx fun s3 I3 => ⟨.bl _, H, I3, rfl, q⟩
  | true => exact d_notIn (by omega) I (DGet.t h1 h2) rx fun s3 I3 => ⟨.bl _, H, I3, rfl, q⟩
theorem pe_bmD (hF : SemMono F) (ok : XOk c cl F X) {b : Bm} {o : E} {es : Es} {y : Expr} {xs : List Expr} {p q : Pos} (O : PE X y (lE X.K cl F o)) (A : PA X xs (lA X.K cl F es)) (st : ∀ x ∈ xs, starred x = false) (ho : isCall y = false) (hp : (p.endLine == q.line) = true) (hl : xs.length < 3) (hn : es.len = xs.length) :
    PE X (.Call (.Attribute y ((bmT b).2.1 : Str) p) xs [] q) (lE X.K cl F (.bm b o es)) := by
  cases xs with
  | nil =>
    refine PE.mono (pe_bm0 (pa_all b) (slot_all b) (type_all b) (mt_all (F := F) ok b) O (base_not ho) hp) fun σ H Q w => ?_
    obtain ⟨m, ρ, S, R, re, w⟩ := w
    refine le_step hF o R re w fun d S1 m1 H1 v w le R1 rd re1 => ?_
    cases es with
    | cons _ _ => cases hn
    | nil => exact ⟨recv_ty R1 rd w.1, m1, S1, d, [], R1, rd, .nil, bm_mono (fun _ _ => up_le le) w.2⟩
  | cons x xs =>
    refine PE.mono (pe_bm (pa_all b) (slot_all b) (type_all b) (mt_all (F := F) ok b) O A (base_not ho) (form_of st (by omega)) hp (star_not (st x List.mem_cons_self)) (star_any fun w hw => st w (List.mem_cons_of_mem _ hw))) fun σ H Q w => ?_
    obtain ⟨m, ρ, S, R, re, w⟩ := w
    refine le_step hF o R re w fun d S1 m1 H1 v w le R1 rd re1 => ⟨recv_ty R1 rd w.1, ?_⟩
    refine la_step hF es R1 re1 w.2 fun ds S2 m2 H2 vs w2 le2 R2 rd2 re2 => ?_
    exact ⟨m2, S2, d, ds, R2, rd.mono le2, rd2, bm_mono (fun _ _ => up_le (le.trans le2)) w2⟩
end
end Mn
namespace Mn
open PySem PySem.Spec PyProof.Rows L2
section
variable {X : Cx} {pins : List (Addr × Obj)} {σ : L2.St} {H : Hp} {s : Shared} {cl : Cl} {m : List Addr} {S : Store}
theorem frs_rows (I : Inv X pins σ H s) : ∀ {l : List ((Int × Int) × Int)} {ds : List D} {vs : List V}, frs? ds = some l → RDs X.K m H ds vs →
    ∃ (xs : List (Addr × (Int × Int) × Value)) (ts : List Addr), FR X.K H l xs ∧ vs = ts.map V.ref ∧ ts.length = xs.length ∧ ∀ (j : Nat) (x : Addr × (Int × Int) × Value), xs[j]? = some x → ∃ T, ts[j]? = some T ∧ IsTup s.heap T #[.ref x.1, x.2.2]
  | l, [], _, h, .nil => by
    cases h
    exact ⟨[], [], .nil, rfl, rfl, fun j x e => by simp at e⟩
  | l, d :: ds, _, h, .cons (v := v) r rs => by
    unfold frs? at h
    split at h
    · rename_i e
      cases e
    · rename_i a b k ds' e
      injection e with e1 e2
      subst e1 e2
      cases hq : frs? ds with
      | none => rw [hq] at h; cases h
      | some l' =>
        rw [hq] at h
        cases h
        obtain ⟨xs, ts, h1, h2, h3, h4⟩ := frs_rows I hq rs
        cases r with
        | tup sT rr =>
          rename_i T us
          cases rr with
          | cons r1 rr =>
            cases rr with
            | cons r2 rr =>
              cases rr
              cases r2
              cases r1 with
              | tup sb rb =>
                rename_i B ws
                cases rb with
                | cons q1 rb =>
                  cases rb with
                  | cons q2 rb =>
                    cases rb
                    cases q1
                    cases q2
                    obtain ⟨its, rv, ht, _⟩ := I.tuple sT
                    obtain ⟨u, y, ei, ru, ry⟩ := vals2 rv
                    subst ei
                    cases ru
                    obtain ⟨t, rfl⟩ := ry
                    refine ⟨(B, (a, b), .int k t) :: xs, T :: ts, .cons sb h1, by rw [h2]; rfl, by rw [List.length_cons, List.length_cons, h3], fun j x e => ?_⟩
                    cases j with
                    | zero =>
                      cases (Option.some.inj e : (B, (a, b), Value.int k t) = x)
                      exact ⟨T, rfl, ht⟩
                    | succ j =>
                      obtain ⟨T', e1, e2⟩ := h4 j x (by simpa using e)
                      exact ⟨T', by simpa using e1, e2⟩
    · cases h
theorem FR.len {K : Fg} {l : List ((Int × Int) × Int)} {xs : List (Addr × (Int × Int) × Value)} (h : FR K H l xs) : xs.length = l.length := by
  induction h with
  | nil => rfl
  | cons _ _ ih => rw [List.length_cons, List.length_cons, ih]
abbrev kyF (x : Addr × (Int × Int) × Value) : List Int × Addr × Value := ([x.2.1.1, x.2.1.2], x.1, x.2.2)
theorem FR.keys {K : Fg} {l : List ((Int × Int) × Int)} {xs : List (Addr × (Int × Int) × Value)} (h : FR K H l xs) (nd : (l.map (·.1)).Nodup) : ((xs.map kyF).map (·.1)).Nodup := by
  have e : (xs.map kyF).map (·.1) = (l.map (·.1)).map fun p => [p.1, p.2] := by
    clear nd
    induction h with
    | nil => rfl
    | cons _ _ ih =>
      rw [List.map_cons, List.map_cons, List.map_cons, List.map_cons, ih]
  rw [e]
  refine List.Pairwise.map _ (fun a b ne z => ne ?_) nd
  obtain ⟨a1, a2⟩ := a
  obtain ⟨b1, b2⟩ := b
  injection z with z1 z2
  injection z2 with z2 _
  exact Prod.ext z1 z2
theorem FR.isT (I : Inv X pins σ H s) {l : List ((Int × Int) × Int)} {xs : List (Addr × (Int × Int) × Value)} (h : FR X.K H l xs) : ∀ x ∈ xs.map kyF, IsT X.prog X.w s.heap x.1 x.2.1 := by
  induction h with
  | nil => exact fun x hx => nomatch hx
  | cons hb _ ih =>
    intro x hx
    rcases List.mem_cons.mp hx with rfl | hx
    · exact I.isT hb
    · exact ih x hx
theorem atKey_not {xs : List (List Int × Addr × Value)} {k : List Int} (h : k ∉ xs.map (·.1)) : atKey xs k = none := by
  refine atKey_none_of_get fun j p e => h ?_
  exact List.mem_map.mpr ⟨_, List.mem_of_getElem? e, rfl⟩
theorem stored_all : ∀ (ps acc : List (List Int × Addr × Value)), ((acc ++ ps).map (·.1)).Nodup → storedAllH acc ps = acc ++ ps
  | [], acc, _ => (List.append_nil _).symm
  | p :: ps, acc, h => by
    have hp : p.1 ∉ acc.map (·.1) := fun z => by
      rw [List.map_append, List.nodup_append] at h
      exact h.2.2 _ z _ (by rw [List.map_cons]; exact List.mem_cons_self) rfl
    show storedAllH (storedH acc p.1 p.2.1 p.2.2) ps = _
    rw [storedH_new (atKey_not hp), stored_all ps _ (by rw [List.append_assoc]; exact h), List.append_assoc]
    rfl
theorem FR.get {K : Fg} {l : List ((Int × Int) × Int)} {xs : List (Addr × (Int × Int) × Value)} (h : FR K H l xs) {p : Int × Int} {v : Int} (e : l.lookup p = some v) : ∃ (i : Nat) (b : Addr) (t : Tok), xs[i]? = some (b, p, .int v t) := by
  induction h with
  | nil => cases e
  | @cons q k b t l xs hb _ ih =>
    rw [List.lookup_cons] at e
    cases hq : p == q with
    | true =>
      rw [hq] at e
      have e1 : p = q := by simpa using hq
      cases e
      exact ⟨0, b, t, by rw [e1]; rfl⟩
    | false =>
      rw [hq] at e
      obtain ⟨i, b', t', e2⟩ := ih e
      exact ⟨i + 1, b', t', by simpa using e2⟩
theorem FR.val {K : Fg} {l : List ((Int × Int) × Int)} {xs : List (Addr × (Int × Int) × Value)} (h : FR K H l xs) {i : Nat} {x : Addr × (Int × Int) × Value} (e : xs[i]? = some x) : ∃ t, x.2.2 = .int ((l.map (·.2)).getD i 0) t := by
  induction h generalizing i with
  | nil => simp at e
  | @cons q k b t l xs hb _ ih =>
    cases i with
    | zero =>
      cases (Option.some.inj e : (b, q, Value.int k t) = x)
      exact ⟨t, rfl⟩
    | succ i =>
      obtain ⟨t', e2⟩ := ih (i := i) (by simpa using e)
      exact ⟨t', by rw [e2]; simp [List.getD_eq_getElem?_getD]⟩
theorem fd_ent {P : Program} {w : World} (xs : List (Addr × (Int × Int) × Value)) : (xs.map kyF).map (entryOfKey (tupleKind (intKind P w))) = xs.map entF := by
  rw [List.map_map]
  rfl
theorem fd_dict (I : Inv X pins σ H s) {a : Addr} {l : List ((Int × Int) × Int)} (h : FdAt X.K H a l) : ∃ (o : Obj) (es : Array DictEntry) (ep : Nat) (xs : List (Addr × (Int × Int) × Value)), s.heap.get? a = some o ∧ (a == sysModules) = false ∧ o.ExactDict ∧ o.data = .dict es ep ∧ es.toList = xs.map entF ∧ FR X.K H l xs ∧ s.heap.DictOfH (tupleKind (intKind X.prog X.w)) a (xs.map kyF) := by
  obtain ⟨o, es, ep, xs, h1, h2, h3, h4, h5, h6, h7⟩ := h
  have ho : s.heap.get? a = some o := (show ObjOk X.prog X.w H s.heap a (.frz o (.ext fun h => h.get? a = some o)) from I.hok a _ h1).1
  exact ⟨o, es, ep, xs, ho, h2, h3, h4, h5, h6, o, es, ep, ho, h3, h4, by rw [fd_ent]; exact h5, h6.isT I, h6.keys h7⟩
theorem call_dictF (hc : X.calm = true) (hu : X.A.units + 3 < cLine) : CallR X (.type "dict") (fun vs H Q => ∃ m S d v, vs = [v] ∧ RS X.K cl m H S ∧ RD X.K m H d v ∧ dictFD d S (up X.K cl m H Q)) := by
  intro pins s σ H vs us Q I r ⟨m, S, d, v, ev, R, rd, h⟩
  subst ev
  obtain ⟨u, rfl, ru⟩ := vals1 r
  unfold dictFD at h
  split at h
  · rename_i l e
    obtain ⟨nd, hl, q⟩ := h
    cases hq : lq? S d with
    | none => rw [hq] at e; cases e
    | some ds =>
      rw [hq] at e
      have e : frs? ds = some l := e
      obtain ⟨a, ws, rfl, hs, rds⟩ := rd.lq R hq
      cases ru
      obtain ⟨xs, ts, h1, h2, h3, h4⟩ := frs_rows I e rds
      subst h2
      obtain ⟨its, rv, ⟨ol, n, ho, hcl, hdn, hdat⟩, hz⟩ := I.list hs
      have ei := refs_at rv
      subst ei
      have hlen := h1.len
      have hPs : ∀ (j : Nat) (k w : Value), (xs.map fun x => ((Value.ref x.1, x.2.2) : Value × Value))[j]? = some (k, w) → ∃ x, xs[j]? = some x ∧ k = .ref x.1 ∧ w = x.2.2 := fun j k w e => by
        rw [List.getElem?_map] at e
        obtain ⟨x, e1, e2⟩ := Option.map_eq_some_iff.mp e
        cases e2
        exact ⟨x, e1, rfl, rfl⟩
      refine call_dict_pairsH (prog := X.prog) (w := X.w) (knd := tupleKind (intKind X.prog X.w)) (ps := xs.map kyF) (PairArg.list a (ts.map Value.ref).toArray (fun j => ts.getD j 0) (xs.map fun x => (Value.ref x.1, x.2.2))) (I.ok.hd hc) (show X.A.units + 2 < cLine by omega) ⟨⟨ol, n, ho, hcl, hdn, hdat⟩, ?_, ?_⟩ ⟨?_, ?_⟩ ?_ ?_ ?_
      · rw [List.size_toArray, List.length_map, List.length_map, h3]
      · intro j k w e
        obtain ⟨x, e1, rfl, rfl⟩ := hPs j k w e
        obtain ⟨T, e2, ht⟩ := h4 j x e1
        have eT : ts.getD j 0 = T := by rw [List.getD_eq_getElem?_getD, e2]; rfl
        refine ⟨?_, ?_⟩
        · show (ts.map Value.ref).toArray[j]? = some (Value.ref (ts.getD j 0))
          rw [eT, List.getElem?_toArray, List.getElem?_map, e2]
          rfl
        · show PairAt s.heap (ts.getD j 0) _ _
          rw [eT]
          obtain ⟨ot, g1, g2, n2, g3⟩ := ht
          exact .inl ⟨ot, g1, g2, n2, g3⟩
      · rw [List.length_map, List.length_map]
      · intro j k w e
        obtain ⟨x, e1, rfl, rfl⟩ := hPs j k w e
        exact ⟨[x.2.1.1, x.2.1.2], x.1, by rw [List.getElem?_map, e1]; rfl, rfl⟩
      · intro h' hk x hx
        obtain ⟨ot, items, n2, g1, g2, g3, g4⟩ := h1.isT I x hx
        exact ⟨ot, items, n2, hk _ _ (Nat.ne_of_lt (Heap.lt_size g1)) (fun z => nomatch z) g1, g2, g3, g4⟩
      · rw [List.length_map, hlen]
        exact Nat.le_trans hl (by decide)
      · intro h' tk hd' hk
        rw [stored_all _ _ (by rw [List.nil_append]; exact h1.keys nd), List.nil_append] at hd'
        obtain ⟨o, es, ep, ho', hex, hdat', hes, his, hnd⟩ := hd'
        have np : H s.heap.objs.size = none := I.hok.fresh (Nat.le_refl _)
        rw [fd_ent] at hes
        refine ⟨.ref s.heap.objs.size, upd H s.heap.objs.size (.frz o (.ext fun h => h.get? s.heap.objs.size = some o)), I.laid (t' := tk) (fun b u e => hk b u (fun z => nomatch z) e) (Nat.le_refl _) ⟨ho', ho', ⟨o, ho'⟩, fun _ _ q k => k o q⟩, rfl, ?_⟩
        exact q _ _ _ (le_push np) (R.push np ⟨o, es, ep, xs, upd_same, beq_eq_false_iff_ne.mpr (Ne.symm (Nat.ne_of_lt I.big)), hex, hdat', hes, h1.mono (le_push (m := m) np), nd⟩) (.ref (R.last _))
  · exact h.elim
theorem ix_fdi (hu : X.A.units + 1 < cLine) : IxR X (fun x y H Q => ∃ m S d e, RS X.K cl m H S ∧ RD X.K m H d x ∧ RD X.K m H e y ∧ ixFD d e S (up X.K cl m H Q)) := by
  intro value slice pins s σ H x y v u Q I rx ry ⟨m, S, d, e, R, r1, r2, h⟩ hs
  unfold ixFD at h
  split at h
  · rename_i l a b ef
    split at h
    · rename_i w ew
      unfold fdi? at ef
      split at ef
      · rename_i n
        split at ef
        · rename_i l' g
          cases ef
          cases r1 with
          | ref hm =>
            rename_i A
            cases rx
            have fd : FdAt X.K H A l := R.at_ _ _ _ hm g
            obtain ⟨o, es, ep, xs, ho, hsys, hex, hdat, hes, fr, dd⟩ := fd_dict I fd
            cases r2 with
            | tup sb rb =>
              rename_i B ws
              cases rb with
              | cons q1 rb =>
                cases rb with
                | cons q2 rb =>
                  cases rb
                  cases q1
                  cases q2
                  cases ry
                  have hk : IsT X.prog X.w s.heap [a, b] B := I.isT (show SqT X.K H B ([a, b].map V.int) from sb)
                  obtain ⟨i, b', t, ex⟩ := fr.get ew
                  have hp : atKey (xs.map kyF) [a, b] = some (b', .int w t) := atKey_of_get (let ⟨_, _, _, _, _, _, _, _, z⟩ := dd; z) (i := i) (by rw [List.getElem?_map, ex]; rfl)
                  have hT : s.TypeIs (.ref A) "dict" := ⟨o, ho, hex.1⟩
                  unfold subscriptTail
                  refine wpAny_bind ?_
                  rw [getitemInPython_of_ne hT.not_modules]
                  refine wpAny_bind (wpAny_specialOf hT PySem.F.slot_dict_getitem.lookup ?_)
                  have fin : wpAny (model X.prog X.w) X.A (subscripted slice false (.ref A) (.ref B)) (fun r s₃ => wpAny (model X.prog X.w) X.A (letTemporaryGo value (.ref A) r >>= fun _ => pure r) (EP X pins σ Q) X.xe s₃) X.xe s := by
                    rw [hs]
                    exact wpAny_operating (wpAny_getItem_heap (tupleKind_room_in1 hu) hk dd hp (wpAny_bind (wpAny_letTemporaryGo (wpAny_pure ⟨.int w, H, I.tok _, ⟨t, rfl⟩, up_here h R (.int w)⟩))))
                  first
                    | exact wpAny_pure (wpAny_bind fin)
                    | exact wpAny_bind (wpAny_pure (wpAny_bind fin))
                    | exact wpAny_bind fin
        · cases ef
      · cases ef
    · exact h.elim
  · exact h.elim
variable {c : Cxt} {F : Sem}
theorem pe_dictF (hF : SemMono F) (ok : XOk c cl F X) {x : Str} {e : E} {y : Expr} {p pos : Pos} (hx : c.bltn x "dict" = true) (hy : PE X y (lE X.K cl F e)) (st : starred y = false) : PE X (.Call (.Name x p) [y] [] pos) (lE X.K cl F (.dictF e)) := by
  obtain ⟨ex, h1, h2, h3, h4⟩ := bltn_of ok hx
  subst ex
  refine ⟨fun pins s σ H Q I h => ?_⟩
  obtain ⟨m, ρ, S, R, re, h⟩ := h
  have st' := star_not (env := X.env) (es := []) st
  refine Call_ (ld_blt I h1 h2 boot_dictT ?_ h3 h4)
  refine PyProof.Rows.callWith_type1 (PyProof.Rows.args_cons (thn (hy.run pins s σ H _ I (le_step hF e R re h fun d S1 m1 H1 v q le R1 rd re1 =>
    (⟨m1, S1, d, R1, rd, dictFD_mono (fun _ _ => up_le le) (show dictFD d S1 (up X.K cl m H Q) from q)⟩ : ∃ m1 S1 d, RS X.K cl m1 H1 S1 ∧ RD X.K m1 H1 d v ∧ dictFD d S1 (up X.K cl m1 H1 Q)))) fun u s1 ⟨v, H1, I1, r1, m1, S1, d, R1, rd, q1⟩ => PyProof.Rows.args_nil ?_) st') st' rfl
  exact call_dictF ok.calm (by have := ok.units; omega) pins s1 σ H1 [v] [u] Q I1 (.cons r1 .nil) ⟨m1, S1, d, v, rfl, R1, rd, q1⟩
theorem pe_ixF (hF : SemMono F) (ok : XOk c cl F X) {o k : E} {a b : Expr} {pos : Pos} (ha : PE X a (lE X.K cl F o)) (hb : PE X b (lE X.K cl F k)) (hs : PlainIx b) : PE X (.Subscript a b pos) (lE X.K cl F (.ixF o k)) := by
  refine PE.mono (pe_ix (ix_fdi (cl := cl) (by have := ok.units; omega)) ha hb hs) fun σ H Q q => ?_
  obtain ⟨m, ρ, S, R, re, q⟩ := q
  refine le_step hF o R re q fun d S1 m1 H1 v q le R1 rd re1 => le_step hF k R1 re1 q fun d2 S2 m2 H2 v2 q2 le2 R2 rd2 re2 => ?_
  exact ⟨m2, S2, d, d2, R2, rd.mono le2, rd2, ixFD_mono (fun _ _ => up_le (le.trans le2)) q2⟩
theorem pe_minF (hF : SemMono F) (ok : XOk c cl F X) {x : Str} {e : E} {o : Expr} {p pos apos mpos : Pos} (hx : c.bltn x "min" = true) (hd : PE X o (lE X.K cl F e)) (hbase : attributeBase o "values" X.env (eval o X.env) = eval o X.env) (hline : (apos.endLine == mpos.line) = true) :
    PE X (.Call (.Name x p) [.Call (.Attribute o "values" apos) [] [] mpos] [] pos) (lE X.K cl F (.minF e)) := by
  obtain ⟨ex, g1, g2, g3, g4⟩ := bltn_of ok hx
  subst ex
  have hse : starEach [Expr.Call (.Attribute o "values" apos) [] [] mpos] X.env = [(false, eval (Expr.Call (.Attribute o "values" apos) [] [] mpos) X.env)] := rfl
  refine ⟨fun pins s σ H Q I h => ?_⟩
  obtain ⟨m, ρ, S, R, re, h⟩ := h
  refine wpAny_Call_Name_kw (ld_blt I g1 g2 (u := .builtin "min") (by first | rfl | decide +kernel) ?_ g3 g4)
  rw [hse]
  refine PySem.callWith_builtin1 (wpAny_Call_method0_late hbase hline (thn (hd.run pins s σ H _ I (le_step hF e R re h fun d S1 m1 H1 v q le R1 rd re1 =>
    (⟨m1, S1, d, R1, rd, minFD_mono (fun _ _ => up_le le) (show minFD d S1 (up X.K cl m H Q) from q)⟩ : ∃ m1 S1 d, RS X.K cl m1 H1 S1 ∧ RD X.K m1 H1 d v ∧ minFD d S1 (up X.K cl m1 H1 Q)))) fun v s1 ⟨x, H1, I1, r1, m1, S1, d, R1, rd, q⟩ => ?_))
  unfold minFD at q
  split at q
  · rename_i l ef
    obtain ⟨hne, q⟩ := q
    unfold fdi? at ef
    split at ef
    · rename_i n
      split at ef
      · rename_i l' g
        cases ef
        cases rd with
        | ref hm =>
          rename_i a
          cases r1
          have fd : FdAt X.K H1 a l := R1.at_ _ _ _ hm g
          obtain ⟨ob, es, ep, xs, ho, hsys, ex, hdat, hes, fr, dof⟩ := fd_dict I1 fd
          refine ⟨"dict", "dict.values", PySem.F.plainAttrs_dict, PySem.F.slot_dict_values, PySem.F.type_dict_values, ⟨ob, ho, ex.1⟩, fun b e => ?_, Calls.callWith_builtin rfl (PySem.evalArgs_none ?_)⟩
          · cases e
            exact ⟨ob, ho, ex.2.1⟩
          have raw : s1.heap.DictRaw a es ep := ⟨ob, ho, ex, hdat⟩
          refine call_meetsIn PySem.F.slot_dict_values ⟨ob, ho, ex.1⟩ PySem.F.entry_dict_values (PySem.F.args_dict_values_1 _) (meets_dict_values_raw a hsys) ⟨⟨es, ep, raw⟩, ?_⟩
          have k1 : ∀ b u, s1.heap.get? b = some u → (s1.heap.push { cls := .type "dict_values", data := .fields #[.ref a] }).get? b = some u := fun b u e => Heap.get?_push_of_some _ e
          have raw1 : (s1.heap.push { cls := .type "dict_values", data := .fields #[.ref a] }).DictRaw a es ep := raw.at fun o e => k1 a o e
          have hes2 : es.size = xs.length := by rw [← Array.length_toList, hes, List.length_map]
          have hlen : 0 < es.size := by
            rw [hes2, fr.len]
            exact List.length_pos_iff.mpr hne
          generalize his : l.map (·.2) = is at *
          have hil : is.length = es.size := by rw [← his, List.length_map, hes2, fr.len]
          have hval : ∀ (i : Nat) (v : Value), (∃ hi : i < es.size, v = es[i].val) → ∃ t, v = Value.int (is.getD i 0) t := fun i v ⟨hi, hv⟩ => by
            have e1 : es.toList[i]? = some es[i] := by rw [Array.getElem?_toList]; exact Array.getElem?_eq_getElem hi
            rw [hes, List.getElem?_map] at e1
            obtain ⟨x, e2, e3⟩ := Option.map_eq_some_iff.mp e1
            obtain ⟨t, e4⟩ := fr.val e2
            rw [his] at e4
            exact ⟨t, by rw [hv, ← e3, ← e4]; rfl⟩
          refine call_min_walk (wpAny_pyIter_values_raw (v := s1.heap.objs.size) (d := a) ⟨_, Heap.get?_push_size _ rfl, rfl, rfl⟩ raw1 ?_)
          have hlt : a < s1.heap.objs.size := Heap.lt_size ho
          have hsz : (s1.heap.push { cls := .type "dict_values", data := .fields #[.ref a] }).objs.size = s1.heap.objs.size + 1 := Heap.size_push _ _
          refine ⟨_, _, _, _, _, _, _, rfl, Walks.rawValues (A := X.A.in1) (I.ok.hd ok.calm) (s1.heap.push { cls := .type "dict_values", data := .fields #[.ref a] }).objs.size a (by rw [hsz]; exact Nat.ne_of_lt (Nat.lt_succ_of_lt hlt)) es ep,
            ⟨⟨_, Heap.get?_push_size _ rfl, rfl, rfl⟩, raw1.at fun u e => Heap.get?_push_of_some _ e⟩, fun b hb => ?_, hlen, CmpOf.ints_lt (fun i => is.getD i 0) hval, fun v h' tk hP hk => ?_⟩
          · show b < ((s1.heap.push _).push _).objs.size
            rw [Heap.size_push, Heap.size_push]
            rw [hsz] at hb
            rcases List.mem_cons.mp hb with e | hb
            · rw [e]
              exact Nat.lt_succ_self _
            · have e : b = a := List.mem_singleton.mp hb
              rw [e]
              exact Nat.lt_succ_of_lt (Nat.lt_succ_of_lt hlt)
          · obtain ⟨t, rfl⟩ := hval _ v hP
            obtain ⟨b1, b2⟩ := argBest_lt (fun i => is.getD i 0) (es.size - 1)
            refine ⟨.int _, H1, I1.kept (t' := tk) fun b u e => hk b u (fun hmem => ?_) (Heap.get?_push_of_some _ (k1 b u e)), ⟨t, rfl⟩, up_here (q _ ?_ fun j hj => ?_) R1 (.int _)⟩
            · have e1 : b = (s1.heap.push { cls := .type "dict_values", data := .fields #[.ref a] }).objs.size := List.mem_singleton.mp hmem
              have e2 := Heap.lt_size e
              rw [hsz] at e1
              rw [e1] at e2
              exact absurd e2 (Nat.not_lt.mpr (Nat.le_succ _))
            · have hb : argBest (fun i j => decide (is.getD i 0 < is.getD j 0)) (es.size - 1) < is.length := by omega
              rw [List.getD_eq_getElem?_getD, List.getElem?_eq_getElem hb]
              exact List.getElem_mem hb
            · obtain ⟨i, hi, e⟩ := List.mem_iff_getElem.mp hj
              have e2 : is.getD i 0 = j := by rw [List.getD_eq_getElem?_getD, List.getElem?_eq_getElem hi, ← e] <;> rfl
              rw [← e2]
              exact b2 i (by omega)
      · cases ef
    · cases ef
  · exact q.elim
end
end Mn
namespace Mn
open PySem PySem.Spec PyProof.Rows L2
section
variable {cl : Cl} {F : Sem}
def lP (K : Fg) (cl : Cl) (F : Sem) (ks : List (Sum Key Nat)) (vs : Es) (σ : L2.St) (H : Hp) (Q : List (V × V) → Hp → Prop) : Prop := ∃ m ρ S kk, RS K cl m H S ∧ RE K m H ρ σ ∧ keysAt ρ ks = some kk ∧
  wpEs F vs ρ S (fun ds S' => ∀ m' H' us, Le m H m' H' → RS K cl m' H' S' → RDs K m' H' ds us → Q ((kk.zip us).map fun kv => (kV kv.1, kv.2)) H') (upX K cl)
def tKey (K : Fg) (k : Sum Key Nat) : TE := fun σ H Q => ∃ m ρ k0, RE K m H ρ σ ∧ keysAt ρ [k] = some [k0] ∧ Q (kV k0) H
theorem keys_cons {ρ : Env} {k : Sum Key Nat} {r : List (Sum Key Nat)} {kk : List Key} (h : keysAt ρ (k :: r) = some kk) : ∃ k0 kr, kk = k0 :: kr ∧ keysAt ρ [k] = some [k0] ∧ keysAt ρ r = some kr := by
  cases k with
  | inl k =>
    have h2 : (keysAt ρ r).map (k :: ·) = some kk := h
    cases e : keysAt ρ r with
    | none => rw [e] at h2; cases h2
    | some kr => rw [e] at h2; cases h2; exact ⟨k, kr, rfl, rfl, rfl⟩
  | inr i =>
    unfold keysAt at h
    cases e1 : ρ[i]? with
    | none => rw [e1] at h; cases h
    | some o =>
      cases o with
      | none => rw [e1] at h; cases h
      | some d =>
        rw [e1] at h
        cases e2 : keyOf d with
        | none => simp [e2] at h
        | some k =>
          simp only [e2] at h
          cases e : keysAt ρ r with
          | none => rw [e] at h; cases h
          | some kr =>
            rw [e] at h
            cases h
            refine ⟨k, kr, rfl, ?_, rfl⟩
            unfold keysAt
            simp [e1, e2, keysAt]
theorem keys_len {c : Cxt} {ρ : Env} : ∀ {ks : List (Sum Key Nat)} {keys : List (Option Expr)} {kk : List Key}, chkKs c ks keys = true → keysAt ρ ks = some kk → kk.length = keys.length
  | [], [], kk, _, h2 => by cases h2; rfl
  | [], _ :: _, _, h1, _ => by cases h1
  | _ :: _, [], _, h1, _ => by cases h1
  | _ :: _, none :: _, _, h1, _ => by cases h1
  | k :: r, some x :: q, kk, h1, h2 => by
    obtain ⟨k0, kr, rfl, _, e⟩ := keys_cons h2
    rw [List.length_cons, List.length_cons, keys_len (and2 (show (chkK c k x && chkKs c r q) = true from h1)).2 e]
theorem chkKs_some {c : Cxt} : ∀ {ks : List (Sum Key Nat)} {keys : List (Option Expr)}, chkKs c ks keys = true → keys.all (·.isSome) = true
  | [], [], _ => rfl
  | [], _ :: _, h1 => by cases h1
  | _ :: _, [], h1 => by cases h1
  | _ :: _, none :: _, h1 => by cases h1
  | k :: r, some x :: q, h1 => by
    rw [List.all_cons, chkKs_some (and2 (show (chkK c k x && chkKs c r q) = true from h1)).2]
    rfl
theorem pairs_zip (kk : List Key) (us : List V) : ((kk.zip us).map fun kv => (kV kv.1, kv.2)) = (kk.zip us).map fun kv => (kV kv.1, kv.2) := rfl
theorem KR.zip {K : Fg} {m : List Addr} {H : Hp} : ∀ (kk : List Key) {ds : List D} {us : List V}, RDs K m H ds us → KR K m H (kk.zip ds) (kk.zip us)
  | [], _, _, _ => .nil
  | _ :: _, _, _, .nil => .nil
  | k :: kk, _, _, .cons r q => .cons r (KR.zip kk q)
theorem KR.mergeK {K : Fg} {m : List Addr} {H : Hp} : ∀ {l : List (Key × D)} {us : List (Key × V)} {a : List (Key × D)} {b : List (Key × V)}, KR K m H l us → KR K m H a b → KR K m H (mergeD a l) (L2.mergeK b us)
  | [], _, a, b, .nil, h => h
  | (k, _) :: _, _, a, b, .cons r q, h => by
    have z := KR.mergeK q (h.put (k := k) r)
    exact z
theorem snd_key {cl : Cl} {F : Sem} {c : Cxt} {X : Cx} (ok : XOk c cl F X) {k : Sum Key Nat} {x : Expr} (h : chkK c k x = true) : PE X x (tKey X.K k) := by
  unfold chkK at h
  split at h
  · rename_i k z i p
    cases k with
    | inl i =>
      cases z <;> first | (cases h; done) | skip
      rw [show _ = _ from of_decide_eq_true h]
      exact PE.mono pe_int fun σ H Q ⟨m, ρ, k0, re, e, q⟩ => by cases e; exact q
    | inr i =>
      cases z <;> first | (cases h; done) | skip
      rw [show _ = _ from of_decide_eq_true h]
      exact PE.mono pe_str fun σ H Q ⟨m, ρ, k0, re, e, q⟩ => by cases e; exact q
  · rename_i i x p
    obtain ⟨h1, h2, h3⟩ := and3 h
    obtain ⟨k1, k2, k3⟩ := okN_of h3
    refine PE.mono (pe_var (i := i) (by rw [ok.N]; exact of_decide_eq_true h1) (by rw [ok.sc]; exact vis_of h2) k1 k2) fun σ H Q q => ?_
    obtain ⟨m, ρ, k0, re, e, q⟩ := q
    unfold keysAt at e
    split at e
    · rename_i d ed
      cases ek : keyOf d with
      | none => simp [ek] at e
      | some k =>
        simp [ek, keysAt] at e
        subst e
        obtain ⟨v, ev, rd⟩ := re.at_ i d ed
        have evv : v = kV k := by
          cases d with
          | int i => cases rd; cases ek; rfl
          | str i => cases rd; cases ek; rfl
          | _ => cases ek
        exact ⟨v, ev, by rw [evv]; exact q⟩
    · cases e
  · cases h
mutual
theorem sndE (hF : SemMono F) : ∀ (e : E) {c : Cxt} {cl : Cl} {X : Cx} (ok : XOk c cl F X) (x : Expr), chkE e c x = true → Snd c cl F X e x
  | .bad, c, cl, X, ok, x, _ => ⟨PE.bad fun σ H Q ⟨_, _, _, _, _, h⟩ => h, fun _ => PT.bad fun σ H Q ⟨_, _, _, _, _, h⟩ => h⟩
  | .no, c, cl, X, ok, x, h => by cases h
  | .v i, c, cl, X, ok, x, h => by
    unfold chkE at h
    split at h
    · obtain ⟨h1, h2, h3⟩ := and3 h
      obtain ⟨k1, k2, k3⟩ := okN_of h3
      refine Snd.plain (PE.mono (pe_var (i := i) (by rw [ok.N]; exact of_decide_eq_true h1) (by rw [ok.sc]; exact vis_of h2) k1 k2) fun σ H Q q => ?_) rfl
      obtain ⟨m, ρ, S, R, re, q⟩ := q
      replace q : (match ρ[i]? with | some (some d) => up X.K cl m H Q d S | _ => False) := q
      split at q
      · rename_i d e
        obtain ⟨v, ev, rd⟩ := re.at_ i d e
        exact ⟨v, ev, up_here q R rd⟩
      · exact q.elim
    · cases h
  | .cst d, c, cl, X, ok, x, h => by
    unfold chkE at h
    split at h
    · rename_i k kk pos
      unfold cstB at h
      split at h
      · exact Snd.plain (PE.mono pe_non fun σ H Q ⟨m, ρ, S, R, re, q⟩ => up_here q R .non) rfl
      · rw [show _ = _ from eq_of_beq h]
        exact Snd.plain (PE.mono pe_bl fun σ H Q ⟨m, ρ, S, R, re, q⟩ => up_here q R (.bl _)) rfl
      · rw [show _ = _ from of_decide_eq_true h]
        exact Snd.plain (PE.mono pe_int fun σ H Q ⟨m, ρ, S, R, re, q⟩ => up_here q R (.int _)) rfl
      · rw [show _ = _ from of_decide_eq_true h]
        exact Snd.plain (PE.mono pe_str fun σ H Q ⟨m, ρ, S, R, re, q⟩ => up_here q R (.str _)) rfl
      · cases h
    · obtain ⟨h1, h2, h3⟩ := and3 h
      obtain ⟨p, hp, h4⟩ := List.any_eq_true.mp h3
      obtain ⟨h5, h6⟩ := and2 h4
      obtain ⟨px, pd⟩ := p
      have e1 := of_decide_eq_true h5
      have e2 := D.beq_eq h6
      dsimp only at e1 e2
      subst e1 e2
      obtain ⟨u, v, g1, g2, g3⟩ := ok.csts _ _ hp
      refine Snd.plain (PE.mono (pe_glob (v := v) (show X.env.scope.names.lookup _ = _ by rw [ok.sc]; exact gl_of h1) g1 g2 (okN_of h2).1) fun σ H Q ⟨m, ρ, S, R, re, q⟩ => ?_) rfl
      exact up_here q R (g3 m H)
    · cases h
  | .and a b, c, cl, X, ok, x, h => by
    unfold chkE at h
    split at h
    · rename_i x y r pos
      obtain ⟨h1, h2⟩ := and2 h
      have A := sndE hF a ok x h1
      cases r with
      | nil =>
        have B := sndE hF b ok y h2
        refine ⟨PE.mono (pe_and A.v (pe_one B.v)) fun σ H Q => and_v hF, fun ht => ?_⟩
        obtain ⟨t1, t2⟩ := and2 ht
        exact PT.mono (PW.pt (pw_and (A.t t1) (pw_and1 (B.t t2)))) fun σ H Q => and_t hF
      | cons z r =>
        have B := sndE hF b ok _ h2
        refine ⟨PE.mono (pe_and A.v B.v) fun σ H Q => and_v hF, fun ht => ?_⟩
        obtain ⟨t1, t2⟩ := and2 ht
        refine PT.mono (PW.pt (pw_and (A.t t1) ?_)) fun σ H Q => and_t hF
        exact ⟨fun wh pins s σ H Q I q => (B.t t2).run pins s σ H Q I q⟩
    · cases h
  | .or a b, c, cl, X, ok, x, h => by
    unfold chkE at h
    split at h
    · rename_i x y r pos
      obtain ⟨h1, h2⟩ := and2 h
      have A := sndE hF a ok x h1
      cases r with
      | nil =>
        have B := sndE hF b ok y h2
        refine ⟨PE.mono (pe_or A.v (pe_one B.v)) fun σ H Q => or_v hF, fun ht => ?_⟩
        obtain ⟨t1, t2⟩ := and2 ht
        exact PT.mono (PW.pt (pw_or (A.t t1) (pw_or1 (B.t t2)))) fun σ H Q => or_t hF
      | cons z r =>
        have B := sndE hF b ok _ h2
        refine ⟨PE.mono (pe_or A.v B.v) fun σ H Q => or_v hF, fun ht => ?_⟩
        obtain ⟨t1, t2⟩ := and2 ht
        refine PT.mono (PW.pt (pw_or (A.t t1) ?_)) fun σ H Q => or_t hF
        exact ⟨fun wh pins s σ H Q I q => (B.t t2).run pins s σ H Q I q⟩
    · cases h
  | .not a, c, cl, X, ok, x, h => by
    unfold chkE at h
    split at h
    · have A := sndE hF a ok _ h
      refine ⟨PE.mono (pe_not A.v) fun σ H Q q => ?_, fun ht => PT.mono (pt_not (A.t ht)) fun σ H Q q => ?_⟩
      · obtain ⟨m, ρ, S, R, re, q⟩ := q
        refine le_step hF a R re q fun d S1 m1 H1 v q le R1 rd re1 => ?_
        split at q
        · exact ⟨_, bl_of rd, up_here (up_le le q) R1 (.bl _)⟩
        · exact q.elim
      · obtain ⟨m, ρ, S, R, re, q⟩ := q
        refine le_step hF a R re q fun d S1 m1 H1 v q le R1 rd re1 => ?_
        split at q
        · obtain ⟨k, e, z⟩ := up_here (up_le le q) R1 (.bl _)
          cases e
          exact ⟨_, bl_of rd, z⟩
        · exact q.elim
    · cases h
  | .ite t a b, c, cl, X, ok, x, h => by
    unfold chkE at h
    split at h
    · obtain ⟨h123, h4⟩ := and2 h
      obtain ⟨h1, h2, h3⟩ := and3 h123
      have T := (sndE hF t ok _ h1).t h2
      have A := (sndE hF a ok _ h3).v
      have B := (sndE hF b ok _ h4).v
      refine ⟨PE.mono (pe_ifExp T A B) fun σ H Q q => ?_, fun z => by cases z⟩
      obtain ⟨m, ρ, S, R, re, q⟩ := q
      refine le_step hF t R re q fun d S1 m1 H1 v q le R1 rd re1 => ?_
      split at q
      · exact ⟨true, bl_of rd, (if_pos rfl).mpr (le_step hF a R1 re1 q fun d2 S2 m2 H2 v2 q2 le2 R2 rd2 re2 => q2 m2 H2 v2 (le.trans le2) R2 rd2)⟩
      · exact ⟨false, bl_of rd, (if_neg Bool.false_ne_true).mpr (le_step hF b R1 re1 q fun d2 S2 m2 H2 v2 q2 le2 R2 rd2 re2 => q2 m2 H2 v2 (le.trans le2) R2 rd2)⟩
      · exact q.elim
    · cases h
  | .bin op a b, c, cl, X, ok, x, h => by
    unfold chkE at h
    split at h
    · obtain ⟨h1, h2, h3⟩ := and3 h
      have A := (sndE hF a ok _ h2).v
      have B := (sndE hF b ok _ h3).v
      have e := of_decide_eq_true h1
      subst e
      refine Snd.plain (PE.mono (pe_op (op_snd (cl := cl) op) A B) fun σ H Q q => ?_) rfl
      obtain ⟨m, ρ, S, R, re, q⟩ := q
      refine le_step hF a R re q fun d S1 m1 H1 v q le R1 rd re1 => le_step hF b R1 re1 q fun d2 S2 m2 H2 v2 q2 le2 R2 rd2 re2 => ?_
      exact ⟨m2, S2, d, d2, R2, rd.mono le2, rd2, bop_mono (fun _ _ => up_le (le.trans le2)) q2⟩
    · cases h
  | .neg a, c, cl, X, ok, x, h => by
    unfold chkE at h
    split at h
    · have A := (sndE hF a ok _ h).v
      refine Snd.plain (PE.mono (pe_un un_neg A) fun σ H Q q => ?_) rfl
      obtain ⟨m, ρ, S, R, re, q⟩ := q
      refine le_step hF a R re q fun d S1 m1 H1 v q le R1 rd re1 => ?_
      split at q
      · exact ⟨_, int_of rd, up_here (up_le le q) R1 (.int _)⟩
      · exact q.elim
    · cases h
  | .cmp op a b, c, cl, X, ok, x, h => by
    unfold chkE at h
    split at h
    · obtain ⟨h123, h4⟩ := and2 h
      obtain ⟨h1, h2, h3⟩ := and3 h123
      have A := (sndE hF a ok _ h2).v
      have B := (sndE hF b ok _ h3).v
      have e := of_decide_eq_true h1
      subst e
      have hm := not_t h4
      refine ⟨PE.mono (pe_cmpR (cmp_snd (cl := cl) op ok.units) A B hm) fun σ H Q => cmp_v hF, fun _ => ?_⟩
      exact PT.mono (pt_cmpR (cmp_snd (cl := cl) op ok.units) A B hm) fun σ H Q q => cmp_v hF q
    · cases h
  | .chn op op2 a b d, c, cl, X, ok, x, h => by
    unfold chkE at h
    split at h
    · obtain ⟨h12345, h6, h7⟩ := and3 h
      obtain ⟨h123, h4, h5⟩ := and3 h12345
      obtain ⟨h1, h2, h3⟩ := and3 h123
      have A := (sndE hF a ok _ h3).v
      have B := (sndE hF b ok _ h4).v
      have G := (sndE hF d ok _ h5).v
      have e := of_decide_eq_true h1
      have e2 := of_decide_eq_true h2
      subst e e2
      have hm := not_t h6
      have hm2 := not_t h7
      refine ⟨PE.mono (pe_chain (cmp_snd (cl := cl) op ok.units) (cmp_snd (cl := cl) op2 ok.units) A B G (show lastMarks _ _ = false from hm2)) fun σ H Q => chn_v hF, fun _ => ?_⟩
      exact PT.mono (pt_chain (cmp_snd (cl := cl) op ok.units) (cmp_snd (cl := cl) op2 ok.units) A B G (show lastMarks _ _ = false from hm2)) fun σ H Q q => chn_v hF q
    · cases h
  | .ix a i, c, cl, X, ok, x, h => by
    unfold chkE at h
    split at h
    · obtain ⟨h1, h2, h3⟩ := and3 h
      have A := (sndE hF a ok _ h1).v
      have B := (sndE hF i ok _ h2).v
      refine Snd.plain (PE.mono (pe_ix (ix_snd (cl := cl) ok.units) A B (plain_ix (by simpa using h3))) fun σ H Q q => ?_) rfl
      obtain ⟨m, ρ, S, R, re, q⟩ := q
      refine le_step hF a R re q fun d S1 m1 H1 v q le R1 rd re1 => le_step hF i R1 re1 q fun d2 S2 m2 H2 v2 q2 le2 R2 rd2 re2 => ?_
      exact ⟨m2, S2, d, d2, R2, rd.mono le2, rd2, ixD_mono (fun _ _ => up_le (le.trans le2)) q2⟩
    · cases h
  | .sl a lo hi, c, cl, X, ok, x, h => by
    unfold chkE at h
    split at h
    · rename_i x l u p2 pos
      obtain ⟨h1, h2, h3⟩ := and3 h
      have A := (sndE hF a ok _ h1).v
      have L : PO X l (lO X.K cl F lo) := by
        cases l with
        | none =>
          dsimp only at h2
          split at h2
          · exact po_no
          · cases h2
        | some l => exact po_snd (sndE hF lo ok _ h2).v hF (fun d o => optP_int (optP_no (no_of h2)) d o)
      have U : PO X u (lO X.K cl F hi) := by
        cases u with
        | none =>
          dsimp only at h3
          split at h3
          · exact po_no
          · cases h3
        | some l => exact po_snd (sndE hF hi ok _ h3).v hF (fun d o => optP_int (optP_no (no_of h3)) d o)
      refine Snd.plain (PE.mono (pe_slice (sl_snd (cl := cl)) A L U) fun σ H Q q => ?_) rfl
      obtain ⟨m, ρ, S, R, re, q⟩ := q
      refine le_step hF a R re q fun d S1 m1 H1 v q le R1 rd re1 => ?_
      refine lo_step hF lo R1 re1 q fun d2 S2 q2 => ?_
      split at q2
      · rename_i l el
        refine ⟨l, el, fun m2 H2 le2 R2 re2 => lo_step hF hi R2 re2 q2 fun d3 S3 q3 => ?_⟩
        split at q3
        · rename_i u eu
          exact ⟨u, eu, fun m3 H3 le3 R3 re3 => ⟨m3, S3, d, R3, rd.mono (le2.trans le3), slD_mono (fun _ _ => up_le ((le.trans le2).trans le3)) q3⟩⟩
        · exact q3.elim
      · exact q2.elim
    · cases h
  | .tup es, c, cl, X, ok, x, h => by
    unfold chkE at h
    split at h
    · have A := sndEs hF es ok _ h
      refine Snd.plain (PE.mono (pe_tup A) fun σ H Q q => ?_) rfl
      obtain ⟨m, ρ, S, R, re, q⟩ := q
      refine la_step hF es R re q fun ds S1 m1 H1 vs q le R1 rd re1 => ?_
      have hl := lim_le
      have e := rd.length
      have := q.1
      exact ⟨by omega, fun p np => q.2 m1 _ _ (le.trans (le_new np)) (R1.new np) (.tup (SqT.of upd_same) (rd.mono (le_new np)))⟩
    · cases h
  | .lst es, c, cl, X, ok, x, h => by
    unfold chkE at h
    split at h
    · have A := sndEs hF es ok _ h
      refine Snd.plain (PE.mono (pe_lst A) fun σ H Q q => ?_) rfl
      obtain ⟨m, ρ, S, R, re, q⟩ := q
      refine la_step hF es R re q fun ds S1 m1 H1 vs q le R1 rd re1 => ?_
      have hl := lim_le
      have e := rd.length
      have := q.1
      exact ⟨by omega, fun p np => q.2 _ _ _ (le.trans (le_push np)) (R1.pushL np rd) (.ref (R1.last p))⟩
    · cases h
  | .skl i e, c, cl, X, ok, x, h => by
    unfold chkE at h
    split at h
    · rename_i y p a k params body scope lpos kp pos
      obtain ⟨h, h7⟩ := and2 h
      obtain ⟨h, h6⟩ := and2 h
      obtain ⟨h, h5⟩ := and2 h
      obtain ⟨h, h4⟩ := and2 h
      obtain ⟨h, h3⟩ := and2 h
      obtain ⟨h1, h2⟩ := and2 h
      have e3 : k = "key" := of_decide_eq_true h3
      subst e3
      obtain ⟨ey, g2, g3, g4, g5⟩ := bltn_of ok h2
      subst ey
      obtain ⟨c0, P, l1, l2, l3, l4, l5⟩ := ok.lamt h1
      obtain ⟨x0, sl, q1, q2, q3, q4, rfl, k1, k2, k3, k4, k5, k6, k7, k8, k9, k10, k11, k12, k13⟩ := key_of h7
      have A := (sndE hF e ok _ h5).v
      refine Snd.plain (PE.mono (LamX.pe_skl (T := cl.at_.T) l1 l2 l3 l4 l5 k1 k2 k3 k4 k5 k6 k7 k8 k9 k10 k11 k12 k13 g2 g3 (ok.free _ (List.contains_iff_mem.mp h4)) A (by rw [star_not (not_t h6)]; rfl)) fun σ H Q w => ?_) rfl
      obtain ⟨m, ρ, S, R, re, q⟩ := w
      refine le_step hF e R re q fun d S1 m1 H1 v q le R1 rd re1 => ?_
      unfold sklD at q
      split at q
      · rename_i l el
        obtain ⟨hk, q⟩ := q
        obtain ⟨a, vs, rfl, _, _⟩ := rd.lq R1 el
        refine ⟨a, rfl, R1.tb, fun H2 eN T2 => ?_⟩
        have le2 : Le m1 H1 m1 H2 := ⟨fun _ _ z => z, fun a vs z => eN a _ z (fun ps q => by cases q), fun a o u z => eN a _ z (fun ps q => by cases q), fun a φ z => eN a _ z (fun ps q => by cases q)⟩
        have R2 : RS X.K cl m1 H2 S1 := ⟨R1.len, R1.nd, fun n a o e1 e2 => (R1.at_ n a o e1 e2).keep le2 (fun u z => eN a u z fun ps q => by
          subst q
          exact RO.no_tbl (R1.at_ n a o e1 e2) z), cl.mono _ _ _ _ le2 R1.gr, T2⟩
        obtain ⟨a', vs', ev, hs, ql⟩ := (rd.mono le2).lq R2 el
        cases ev
        obtain ⟨zs, z1, z2, z3⟩ := skl_rel hk ql
        exact ⟨zs, by rw [z1]; exact hs, z2, fun p hp => q _ _ _ ((le.trans le2).trans (le_push hp)) (R2.pushL hp z3) (.ref (R2.last p))⟩
      · exact q.elim
    · cases h
  | .rev a, c, cl, X, ok, x, h => by
    unfold chkE at h
    split at h
    · obtain ⟨h1, h2⟩ := and2 h
      have e := of_decide_eq_true h1
      subst e
      have A := (sndE hF a ok _ h2).v
      refine Snd.plain (PE.mono (pe_revA A) fun σ H Q q => ?_) rfl
      obtain ⟨m, ρ, S, R, re, q⟩ := q
      refine le_step hF a R re q fun d S1 m1 H1 v q le R1 rd re1 => ?_
      split at q
      · cases rd with
        | tup hs ql => exact ⟨_, _, rfl, .inr ⟨hs, fun p np => q _ _ _ (le.trans (le_new np)) (R1.new np) (.tup (SqT.of upd_same) (ql.reverse.mono (le_new np)))⟩⟩
      · split at q
        · rename_i l e
          obtain ⟨a, vs, rfl, hq, ql⟩ := rd.lq R1 e
          exact ⟨a, vs, rfl, .inl ⟨hq, fun p np => q _ _ _ (le.trans (le_push np)) (R1.pushL np ql.reverse) (.ref (R1.last p))⟩⟩
        · exact q.elim
    · cases h
  | .dct ks vs, c, cl, X, ok, x, h => by
    unfold chkE at h
    split at h
    · split at h
      · refine Snd.plain (PE.mono pe_dnewK fun σ H Q q => ?_) rfl
        obtain ⟨m, ρ, S, R, re, q⟩ := q
        exact fun p np => q _ _ _ (le_push np) (R.push np ⟨[], upd_same, .nil⟩) (.ref (R.last p))
      · cases h
    · cases h
  | .dsp ks vs, c, cl, X, ok, x, h => by
    unfold chkE at h
    split at h
    · rename_i keys values pos
      obtain ⟨h, h5⟩ := and2 h
      obtain ⟨h, h4⟩ := and2 h
      obtain ⟨h, h3⟩ := and2 h
      obtain ⟨h1, h2⟩ := and2 h
      obtain ⟨trs, pp, im⟩ := sndPs hF vs ok pos ks keys values h1 h2 (of_decide_eq_true h4)
      refine Snd.plain (PE.mono (pe_disp pp (chkKs_some h1) (of_decide_eq_true h4) (fun z => by rw [z] at h5; cases h5) (of_decide_eq_true h3)) fun σ H Q q => ?_) rfl
      obtain ⟨m, ρ, S, R, re, q⟩ := q
      intro p np
      have R1 : RS X.K cl (m ++ [p]) (upd H p (.dK [])) (S ++ [.dct []]) := R.push np ⟨[], upd_same, .nil⟩
      have l1 : Le m H (m ++ [p]) (upd H p (.dK [])) := le_push np
      replace q : (match keysAt ρ ks with
        | some kk => wpEs F vs ρ (S ++ [.dct []]) (fun ds S2 => ds.length = kk.length ∧ S2[S.length]? = some (.dct []) ∧ up X.K cl m H Q (.ref S.length) (S2.set S.length (.dct (mergeD [] (kk.zip ds))))) (upX X.K cl)
        | none => False) := q
      cases hk : keysAt ρ ks with
      | none => rw [hk] at q; exact q.elim
      | some kk =>
        rw [hk] at q
        refine im σ _ _ ⟨m ++ [p], ρ, S ++ [.dct []], kk, R1, re.mono l1, hk, wpEs_mono hF vs (fun ds S2 z m' H' us le2 R2 rd => ?_) (fun _ _ z => z) q⟩
        obtain ⟨z1, z2, z3⟩ := z
        have ep : m'[S.length]? = some p := le2.pre _ _ (R.last p)
        obtain ⟨kvs, g1, g2⟩ := (show ∃ kvs, H' p = some (.dK kvs) ∧ KR X.K m' H' [] kvs from R2.at_ _ _ _ ep z2)
        cases g2
        have ek := keys_len h1 hk
        refine ⟨g1, kk.zip us, (pairs_zip kk us), ?_, z3 m' _ _ ((l1.trans le2).trans (le_set g1 trivial)) (R2.set ep g1 trivial ⟨_, upd_same, (KR.mergeK (K := X.K) (KR.zip kk rd) .nil).mono (le_set g1 trivial)⟩) (.ref ep)⟩
        have := of_decide_eq_true h3
        rw [List.length_zip]
        omega
    · cases h
  | .call f es, c, cl, X, ok, x, h => by
    unfold chkE at h
    split at h
    · rename_i x p xs pos
      obtain ⟨h123, h4⟩ := and2 h
      obtain ⟨h1, h2, h3⟩ := and3 h123
      obtain ⟨q, hq, h5⟩ := List.any_eq_true.mp h4
      obtain ⟨k123, k4⟩ := and2 h5
      obtain ⟨k1, k2, k3⟩ := and3 k123
      have e1 := of_decide_eq_true k1
      have e2 := of_decide_eq_true k2
      have e3 := of_decide_eq_true k3
      subst e1 e2
      obtain ⟨k, fa, fd, ps, G, hr, hm, hk, hb⟩ := (ok.fns _ hq).ex
      have en : q.kw = none := by simpa using k4
      rw [en] at hb
      have hg : Gl X q.x := (show X.env.scope.names.lookup _ = _ by rw [ok.sc]; exact gl_of h1)
      have A := sndEs hF es ok _ h3
      have st := chkEs_star h3
      have key : ∀ σ H Q, lE X.K cl F (.call q.f es) σ H Q → tCall (spOf X.K cl.at_ F q.f q.ar) [] cl.E (lA X.K cl F es) σ H Q := fun σ H Q w => by
        obtain ⟨m, ρ, S, R, re, w⟩ := w
        refine la_step hF es R re (wpEs_len hF es w) fun ds S1 m1 H1 vs w le R1 rd re1 => ?_
        refine ⟨cl, rfl, rfl, m1, S1, ds, R1, by simpa using rd, ?_, hF _ _ _ _ _ _ _ (fun _ _ => up_le le) (fun _ _ z => z) w.1⟩
        rw [List.append_nil, ← rd.length, w.2, chkEs_len h3, e3]
      refine Snd.plain ?_ rfl
      cases xs with
      | nil =>
        refine PE.mono (pe_call0 G hr hg hm hk hb .nil ok.pas (okN_of h2).1) fun σ H Q w => ?_
        cases es with
        | nil =>
          obtain ⟨m, ρ, S, R, re, w⟩ := w
          exact ⟨cl, rfl, rfl, m, S, [], R, .nil, e3.symm, w⟩
        | cons _ _ => cases h3
      | cons y ys => exact PE.mono (pe_call G hr hg hm hk hb .nil ok.pas A (okN_of h2).1 (star_not (st y List.mem_cons_self)) (star_any fun w hw => st w (List.mem_cons_of_mem _ hw))) key
    · cases h
  | .calld f es d, c, cl, X, ok, x, h => by
    unfold chkE at h
    split at h
    · rename_i x p y xs pos
      obtain ⟨h123, h4⟩ := and2 h
      obtain ⟨h1, h2, h3⟩ := and3 h123
      obtain ⟨q, hq, h5⟩ := List.any_eq_true.mp h4
      obtain ⟨k123, k4⟩ := and2 h5
      obtain ⟨k1, k2, k3⟩ := and3 k123
      have e1 := of_decide_eq_true k1
      have e2 := of_decide_eq_true k2
      have e3 := of_decide_eq_true k3
      subst e1 e2
      obtain ⟨k, fa, fd, ps, G, hr, hm, hk, hb⟩ := (ok.fns _ hq).ex
      split at k4
      · rename_i w ew
        rw [ew] at hb
        obtain ⟨⟨dv, ds, hv, hb, hd⟩, _⟩ := hb
        have ed := D.beq_eq k4
        subst ed
        have hg : Gl X q.x := (show X.env.scope.names.lookup _ = _ by rw [ok.sc]; exact gl_of h1)
        have A := sndEs hF es ok _ h3
        have st := chkEs_star h3
        refine Snd.plain (PE.mono (pe_call G hr hg hm hk hb hv ok.pas A (okN_of h2).1 (star_not (st y List.mem_cons_self)) (star_any fun w hw => st w (List.mem_cons_of_mem _ hw))) fun σ H Q w => ?_) rfl
        obtain ⟨m, ρ, S, R, re, w⟩ := w
        refine la_step hF es R re (wpEs_len hF es w) fun ds S1 m1 H1 vs w le R1 rd re1 => ?_
        refine ⟨cl, rfl, rfl, m1, S1, _, R1, rd.append (.cons (hd m1 H1) .nil), ?_, hF _ _ _ _ _ _ _ (fun _ _ => up_le le) (fun _ _ z => z) w.1⟩
        rw [List.length_append, ← rd.length, w.2, chkEs_len h3, e3]
        rfl
      · cases k4
    · cases h
  | .callk f es k, c, cl, X, ok, x, h => by
    unfold chkE at h
    split at h
    · rename_i x p y xs n z kp pos
      obtain ⟨h123, h4, h6⟩ := and3 h
      obtain ⟨h1, h2, h3⟩ := and3 h123
      obtain ⟨q, hq, h5⟩ := List.any_eq_true.mp h6
      obtain ⟨k123, k4⟩ := and2 h5
      obtain ⟨k1, k2, k3⟩ := and3 k123
      have e1 := of_decide_eq_true k1
      have e2 := of_decide_eq_true k2
      have e3 := of_decide_eq_true k3
      subst e1 e2
      obtain ⟨kk, fa, fd, ps, G, hr, hm, hk, hb⟩ := (ok.fns _ hq).ex
      split at k4
      · rename_i w ew
        rw [ew] at hb
        obtain ⟨_, hb⟩ := hb
        have ed := of_decide_eq_true k4
        subst ed
        have hg : Gl X q.x := (show X.env.scope.names.lookup _ = _ by rw [ok.sc]; exact gl_of h1)
        have A := sndEs hF es ok _ h3
        have B := (sndE hF k ok _ h4).v
        have st := chkEs_star h3
        refine Snd.plain (PE.mono (pe_callN G hr hg hm hk hb ok.pas A (pk_cons B pk_nil) rfl rfl (okN_of h2).1 (star_not (st y List.mem_cons_self)) ?_) fun σ H Q w => ?_) rfl
        · rw [star_any st]
          rfl
        · obtain ⟨m, ρ, S, R, re, w⟩ := w
          refine la_step hF es R re (wpEs_len hF es w) fun ds S1 m1 H1 vs w le R1 rd re1 => le_step hF k R1 re1 w.1 fun d2 S2 m2 H2 v2 w2 le2 R2 rd2 re2 => ?_
          have hl : vs.length = q.ar - 1 := by
            rw [← rd.length, w.2, chkEs_len h3, e3]
            rfl
          refine ⟨hl, rfl, cl, rfl, rfl, m2, S2, _, R2, (rd.mono le2).append (.cons rd2 .nil), ?_, hF _ _ _ _ _ _ _ (fun _ _ => up_le (le.trans le2)) (fun _ _ z => z) w2⟩
          rw [List.length_append, hl, e3]
          rfl
      · cases k4
    · cases h
  | .blt b es, c, cl, X, ok, x, h => by
    cases b with
    | len =>
      unfold chkE at h
      dsimp only at h
      split at h
      · obtain ⟨h1, h2⟩ := and2 h
        exact Snd.plain (pe_blt1 hF ok h1 (sndEs hF es ok _ h2) (chkEs_star h2) boot_len blt_len) rfl
      · cases h
    | max2 =>
      unfold chkE at h
      dsimp only at h
      split at h
      · obtain ⟨h1, h2⟩ := and2 h
        exact Snd.plain (pe_blt1 hF ok h1 (sndEs hF es ok _ h2) (chkEs_star h2) boot_max (blt_max2 ok.calm)) rfl
      · cases h
    | min2 =>
      unfold chkE at h
      dsimp only at h
      split at h
      · obtain ⟨h1, h2⟩ := and2 h
        exact Snd.plain (pe_blt1 hF ok h1 (sndEs hF es ok _ h2) (chkEs_star h2) boot_min (blt_min2 ok.calm)) rfl
      · cases h
    | list1 =>
      unfold chkE at h
      dsimp only at h
      split at h
      · obtain ⟨h1, h2⟩ := and2 h
        exact Snd.plain (pe_bltT hF ok h1 (sndEs hF es ok _ h2) (chkEs_star h2 _ List.mem_cons_self) boot_listT (blt_list ok.calm)) rfl
      · cases h
    | tuple1 =>
      unfold chkE at h
      dsimp only at h
      split at h
      · obtain ⟨h1, h2⟩ := and2 h
        exact Snd.plain (pe_bltT hF ok h1 (sndEs hF es ok _ h2) (chkEs_star h2 _ List.mem_cons_self) boot_tupleT blt_tuple) rfl
      · cases h
    | int1 =>
      unfold chkE at h
      dsimp only at h
      split at h
      · obtain ⟨h1, h2⟩ := and2 h
        exact Snd.plain (pe_bltT hF ok h1 (sndEs hF es ok _ h2) (chkEs_star h2 _ List.mem_cons_self) boot_intT blt_int) rfl
      · cases h
    | dict1 =>
      unfold chkE at h
      dsimp only at h
      split at h
      · obtain ⟨h1, h2⟩ := and2 h
        exact Snd.plain (pe_bltT hF ok h1 (sndEs hF es ok _ h2) (chkEs_star h2 _ List.mem_cons_self) boot_dictT blt_dict) rfl
      · cases h
    | sorted1 =>
      unfold chkE at h
      dsimp only at h
      split at h
      · obtain ⟨h1, h2⟩ := and2 h
        exact Snd.plain (pe_blt1 hF ok h1 (sndEs hF es ok _ h2) (chkEs_star h2) boot_sortedB (blt_sorted ok.calm ok.units)) rfl
      · cases h
    | min1 =>
      unfold chkE at h
      dsimp only at h
      split at h
      · obtain ⟨h1, h2⟩ := and2 h
        exact Snd.plain (pe_blt1 hF ok h1 (sndEs hF es ok _ h2) (chkEs_star h2) boot_min (blt_min ok.calm ok.units)) rfl
      · cases h
    | max1 =>
      unfold chkE at h
      dsimp only at h
      split at h
      · obtain ⟨h1, h2⟩ := and2 h
        exact Snd.plain (pe_blt1 hF ok h1 (sndEs hF es ok _ h2) (chkEs_star h2) boot_max (blt_max ok.calm ok.units)) rfl
      · cases h
    | sum1 =>
      unfold chkE at h
      dsimp only at h
      split at h
      · obtain ⟨h1, h2⟩ := and2 h
        exact Snd.plain (pe_blt1 hF ok h1 (sndEs hF es ok _ h2) (chkEs_star h2) boot_sumB (blt_sum ok.calm)) rfl
      · cases h
    | any1 =>
      unfold chkE at h
      dsimp only at h
      split at h
      · obtain ⟨h1, h2⟩ := and2 h
        exact Snd.plain (pe_blt1 hF ok h1 (sndEs hF es ok _ h2) (chkEs_star h2) boot_anyB (blt_any ok.calm)) rfl
      · cases h
    | all1 =>
      unfold chkE at h
      dsimp only at h
      split at h
      · obtain ⟨h1, h2⟩ := and2 h
        exact Snd.plain (pe_blt1 hF ok h1 (sndEs hF es ok _ h2) (chkEs_star h2) boot_allB (blt_all ok.calm)) rfl
      · cases h
    | maxd =>
      unfold chkE at h
      dsimp only at h
      split at h
      · obtain ⟨h1, h2, h3⟩ := and3 h
        have e := of_decide_eq_true h2
        subst e
        cases es with
        | nil => cases h3
        | cons e es =>
          cases es with
          | nil =>
            obtain ⟨_, _, k⟩ := and3 (show (chkE e c _ && !starred _ && chkEs .nil c [_]) = true from h3)
            cases k
          | cons e2 es =>
            obtain ⟨k1, k2, k3⟩ := and3 (show (chkE e c _ && !starred _ && chkEs (.cons e2 es) c [_]) = true from h3)
            obtain ⟨k4, k5, k6⟩ := and3 (show (chkE e2 c _ && !starred _ && chkEs es c []) = true from k3)
            cases es with
            | cons _ _ => cases k6
            | nil => exact Snd.plain (pe_maxd hF ok h1 (sndE hF e ok _ k1).v (sndE hF e2 ok _ k4).v (not_t k2)) rfl
      · cases h
    | abs1 =>
      unfold chkE at h
      dsimp only at h
      split at h
      · obtain ⟨h1, h2⟩ := and2 h
        exact Snd.plain (pe_blt1 hF ok h1 (sndEs hF es ok _ h2) (chkEs_star h2) boot_absB blt_abs) rfl
      · cases h
    | mind =>
      unfold chkE at h
      dsimp only at h
      split at h
      · obtain ⟨h1, h2, h3⟩ := and3 h
        have e := of_decide_eq_true h2
        subst e
        cases es with
        | nil => cases h3
        | cons e es =>
          cases es with
          | nil =>
            obtain ⟨_, _, k⟩ := and3 (show (chkE e c _ && !starred _ && chkEs .nil c [_]) = true from h3)
            cases k
          | cons e2 es =>
            obtain ⟨k1, k2, k3⟩ := and3 (show (chkE e c _ && !starred _ && chkEs (.cons e2 es) c [_]) = true from h3)
            obtain ⟨k4, k5, k6⟩ := and3 (show (chkE e2 c _ && !starred _ && chkEs es c []) = true from k3)
            cases es with
            | cons _ _ => cases k6
            | nil => exact Snd.plain (pe_mind hF ok h1 (sndE hF e ok _ k1).v (sndE hF e2 ok _ k4).v (not_t k2)) rfl
      · cases h
    | lset =>
      unfold chkE at h
      dsimp only at h
      split at h
      · obtain ⟨h1, h2, h3⟩ := and3 h
        cases es with
        | nil => cases h3
        | cons e es =>
          obtain ⟨k1, k2, k3⟩ := and3 (show (chkE e c _ && !starred _ && chkEs es c []) = true from h3)
          cases es with
          | cons _ _ => cases k3
          | nil => exact Snd.plain (pe_set2 hF ok (b := .lset) (fun I R r rx h => call_lset ok.calm (by have := ok.units; omega) I R r rx h) h1 h2 PySem.boot_len (sndE hF e ok _ k1).v (not_t k2)) rfl
      · cases h
    | sset =>
      unfold chkE at h
      dsimp only at h
      split at h
      · obtain ⟨h1, h2, h3⟩ := and3 h
        cases es with
        | nil => cases h3
        | cons e es =>
          obtain ⟨k1, k2, k3⟩ := and3 (show (chkE e c _ && !starred _ && chkEs es c []) = true from h3)
          cases es with
          | cons _ _ => cases k3
          | nil => exact Snd.plain (pe_set2 hF ok (b := .sset) (fun I R r rx h => call_sset ok.calm ok.units I R r rx h) h1 h2 boot_sortedB (sndE hF e ok _ k1).v (not_t k2)) rfl
      · cases h
    | lrng =>
      unfold chkE at h
      dsimp only at h
      split at h
      · obtain ⟨h1, h2, h3⟩ := and3 h
        obtain ⟨ex, g1, g2, g3, g4⟩ := bltn_of ok h1
        obtain ⟨ey, j1, j2, j3, j4⟩ := bltn_of ok h2
        subst ex ey
        cases es with
        | nil => cases h3
        | cons e es =>
          obtain ⟨k1, k2, k3⟩ := and3 (show (chkE e c _ && !starred _ && chkEs es c []) = true from h3)
          cases es with
          | cons _ _ => cases k3
          | nil =>
            have A := (sndE hF e ok _ k1).v
            refine Snd.plain (PE.mono (pe_listRg ok.calm g1 g2 (prg_1 j1 j2 A (star_not (not_t k2))) rfl) fun σ H Q q => ?_) rfl
            obtain ⟨m, ρ, S, R, re, q⟩ := q
            refine le_step hF e R re q fun d S1 m1 H1 v q le R1 rd re1 => ?_
            replace q : bLrng [d] S1 (up X.K cl m H Q) := q
            unfold bLrng at q
            split at q
            · rename_i n en
              cases en
              cases rd
              obtain ⟨q1, q2, q3⟩ := q
              refine ⟨n, rfl, ⟨by omega, by omega, by omega, by omega, by omega⟩, fun p np => ?_⟩
              refine q3 _ _ _ (le.trans (le_push np)) (R1.pushL np ?_) (.ref (R1.last p))
              exact rds_rng n
            · exact q.elim
      · cases h
    | isi t =>
      unfold chkE at h
      dsimp only at h
      split at h
      · rename_i xn p y z pos
        obtain ⟨h1, h2, h3⟩ := and3 h
        cases es with
        | nil => cases h2
        | cons e es =>
          cases es with
          | cons _ _ =>
            obtain ⟨_, _, k⟩ := and3 (show (chkE e c y && !starred y && chkEs _ c []) = true from h2)
            cases k
          | nil =>
            obtain ⟨k1, k2, _⟩ := and3 (show (chkE e c y && !starred y && chkEs .nil c []) = true from h2)
            have A := (sndE hF e ok _ k1).v
            have st := not_t k2
            refine Snd.plain ?_ rfl
            unfold tyB at h3
            split at h3
            · exact pe_isi1 hF ok .int rfl h1 A st h3 boot_intT
            · exact pe_isi1 hF ok .bool rfl h1 A st h3 boot_boolT
            · exact pe_isi1 hF ok .str rfl h1 A st h3 boot_strT
            · exact pe_isi1 hF ok .tuple rfl h1 A st h3 boot_tupleT
            · exact pe_isi1 hF ok .list rfl h1 A st h3 boot_listT
            · obtain ⟨g1, g2⟩ := and2 h3
              exact pe_isi2 hF ok h1 A st g1 g2
            · cases h3
      · cases h
  | .bm m o es, c, cl, X, ok, x, h => by
    unfold chkE at h
    split at h
    · rename_i y n p xs q
      obtain ⟨h12345, h6⟩ := and2 h
      obtain ⟨h123, h4, h5⟩ := and3 h12345
      obtain ⟨h1, h2, h3⟩ := and3 h123
      have e := of_decide_eq_true h1
      subst e
      exact Snd.plain (pe_bmD hF ok (sndE hF o ok _ h2).v (sndEs hF es ok _ h3) (chkEs_star h3) (not_t h4) h5 (of_decide_eq_true h6) (chkEs_len h3)) rfl
    · cases h
  | .attr k o f, c, cl, X, ok, x, h => by
    unfold chkE at h
    split at h
    · rename_i y n pos
      obtain ⟨h123, h4⟩ := and2 h
      obtain ⟨h1, h2, h3⟩ := and3 h123
      have e := of_decide_eq_true h1
      subst e
      obtain ⟨q, hq, h5⟩ := List.any_eq_true.mp h4
      obtain ⟨k1, k2⟩ := and2 h5
      obtain ⟨qk, qf⟩ := q
      have e1 := of_decide_eq_true k1
      have e2 := of_decide_eq_true k2
      dsimp only at e1 e2
      subst e1 e2
      obtain ⟨C, hC, hc, hno⟩ := ok.flds _ _ hq
      have A := (sndE hF o ok _ h2).v
      refine Snd.plain (PE.mono (pe_fld A (base_not (not_t h3))) fun σ H Q q => ?_) rfl
      obtain ⟨m, ρ, S, R, re, q⟩ := q
      refine le_step hF o R re q fun d S1 m1 H1 v q le R1 rd re1 => ?_
      split at q
      · rename_i c' fs e
        split at q
        · rename_i w ew
          obtain ⟨ec, q9⟩ := q
          subst ec
          obtain ⟨nn, a, C', dx, gs, rfl, hm, rfl, g, hcl, h1, qk⟩ := rd.ins R1 e
          rw [hC] at hcl
          cases hcl
          rcases qk.lookup qf with ⟨d, v, l1, l2, l3⟩ | ⟨l1, l2⟩
          · rw [l1] at ew
            cases ew
            exact ⟨a, C, dx, gs, v, rfl, h1, hc, hno, l2, q9 m1 H1 v le R1 l3⟩
          · rw [l1] at ew; cases ew
        · exact q.elim
      · exact q.elim
    · cases h
  | .meth k mt f o es, c, cl, X, ok, x, h => by
    unfold chkE at h
    split at h
    · rename_i y n apos xs pos
      obtain ⟨h12345, h6, h7⟩ := and3 h
      obtain ⟨h123, h4, h5⟩ := and3 h12345
      obtain ⟨h1, h2, h3⟩ := and3 h123
      have e := of_decide_eq_true h1
      subst e
      obtain ⟨q, hq, h8⟩ := List.any_eq_true.mp h7
      obtain ⟨k123, k4⟩ := and2 h8
      obtain ⟨k1, k2, k3⟩ := and3 k123
      obtain ⟨qk, qm, qf, qn⟩ := q
      have e1 := of_decide_eq_true k1
      have e2 := of_decide_eq_true k2
      have e3 := of_decide_eq_true k3
      have e4 := of_decide_eq_true k4
      dsimp only at e1 e2 e3 e4
      subst e1 e2 e3
      obtain ⟨C, kk, g, fd, ps, hC, hc, hmt, G, hr, hb⟩ := (ok.mts _ _ _ _ hq).ex
      have O := (sndE hF o ok _ h2).v
      have A := sndEs hF es ok _ h3
      have st := chkEs_star h3
      have hl : xs.length < 30 := by
        have := of_decide_eq_true h6
        omega
      refine Snd.plain ?_ rfl
      have key : ∀ (t : TA), (∀ σ H Q, lA X.K cl F es σ H Q → t σ H Q) → ∀ σ H Q, lE X.K cl F (.meth qk qm qf o es) σ H Q → tMeth C qm (spOf X.K cl.at_ F qf qn) [] cl.E (lE X.K cl F o) t σ H Q := fun t ht σ H Q w => by
        obtain ⟨m, ρ, S, R, re, w⟩ := w
        refine le_step hF o R re w fun d S1 m1 H1 v w le R1 rd re1 => ?_
        split at w
        · rename_i c' fs e
          obtain ⟨rfl, l0, w⟩ := w
          obtain ⟨nn, a, C', dx, gs, rfl, hm, rfl, g, hcl, h1, qr⟩ := rd.ins R1 e
          rw [hC] at hcl
          cases hcl
          refine ⟨a, dx, gs, rfl, h1, ?_, ht _ _ _ ?_⟩
          · rcases qr.lookup qm with ⟨d, v, l1, l2, l3⟩ | ⟨l1, l2⟩
            · rw [l1] at l0; cases l0
            · exact l2
          · refine la_step hF es R1 re1 (wpEs_len hF es w) fun ds S2 m2 H2 vs w2 le2 R2 rd2 re2 => ?_
            refine ⟨cl, rfl, rfl, m2, S2, _, R2, .cons (rd.mono le2) (by simpa using rd2), ?_, hF _ _ _ _ _ _ _ (fun _ _ => up_le (le.trans le2)) (fun _ _ z => z) w2.1⟩
            rw [List.append_nil, List.length_cons, ← rd2.length, w2.2, chkEs_len h3, e4]
        · exact w.elim
      cases xs with
      | nil =>
        refine PE.mono (pe_meth0 O hc hmt G hr hb .nil ok.pas (meth_eval (not_t h4) st hl h5)) (key _ fun σ H Q w => ?_)
        cases es with
        | nil => exact nilA w
        | cons _ _ => cases h3
      | cons y ys => exact PE.mono (pe_meth O hc hmt G hr hb .nil ok.pas A (star_not (st y List.mem_cons_self)) (star_any fun w hw => st w (List.mem_cons_of_mem _ hw)) (meth_eval (not_t h4) st hl h5)) (key _ fun _ _ _ w => w)
    · cases h
  | .make k f es, c, cl, X, ok, x, h => by
    unfold chkE at h
    split at h
    · rename_i n p xs pos
      obtain ⟨h123, h4⟩ := and2 h
      obtain ⟨h1, h2, h3⟩ := and3 h123
      obtain ⟨q, hq, h5⟩ := List.any_eq_true.mp h4
      obtain ⟨k123, k4⟩ := and2 h5
      obtain ⟨k1, k2, k3⟩ := and3 k123
      obtain ⟨qx, qk, qf, qn⟩ := q
      have e1 := of_decide_eq_true k1
      have e2 := of_decide_eq_true k2
      have e3 := of_decide_eq_true k3
      have e4 := of_decide_eq_true k4
      dsimp only at e1 e2 e3 e4
      subst e1 e2 e3
      obtain ⟨C, kk, g, fd, ps, hC, M, hm, G, hr, hb⟩ := (ok.mks _ _ _ _ hq).ex
      have hg : Gl X qx := (show X.env.scope.names.lookup _ = _ by rw [ok.sc]; exact gl_of h1)
      have A := sndEs hF es ok _ h3
      have st := chkEs_star h3
      refine Snd.plain ?_ rfl
      have key : ∀ (t : TA), (∀ σ H Q, lA X.K cl F es σ H Q → t σ H Q) → ∀ σ H Q, lE X.K cl F (.make qk qf es) σ H Q → tMake C (spOf X.K cl.at_ F qf qn) [] cl.E t σ H Q := fun t ht σ H Q w => by
        obtain ⟨m, ρ, S, R, re, w⟩ := w
        refine ht _ _ _ (la_step hF es R re (wpEs_len hF es w) fun ds S1 m1 H1 vs w le R1 rd re1 => ?_)
        intro x dx nx ndx hne
        have n1 : (upd H1 dx (.own x)) x = none := by rw [upd_ne (Ne.symm hne)]; exact nx
        have l1 : Le m1 H1 (m1 ++ [x]) (upd (upd H1 dx (.own x)) x (.ins C dx [])) := (le_new ndx).trans (le_push n1)
        have R2 : RS X.K cl (m1 ++ [x]) (upd (upd H1 dx (.own x)) x (.ins C dx [])) (S1 ++ [.ins qk []]) := (R1.new ndx).push n1 ⟨C, dx, [], hC, upd_same, .nil⟩
        refine ⟨cl, rfl, rfl, m1 ++ [x], S1 ++ [.ins qk []], .ref S1.length :: ds, R2, .cons (.ref (R1.last x)) (by simpa using rd.mono l1), ?_, hF _ _ _ _ _ _ _ (fun d S3 z m3 H3 v le3 R3 rd3 => ?_) (fun _ _ z => z) w.1⟩
        · rw [List.append_nil, List.length_cons, ← rd.length, w.2, chkEs_len h3, e4]
        · obtain ⟨rfl, z⟩ := z
          cases rd3
          exact ⟨rfl, z m3 H3 _ ((le.trans l1).trans le3) R3 (.ref (le3.pre _ _ (R1.last x)))⟩
      cases xs with
      | nil =>
        refine PE.mono (pe_make0 M G hr hg hm hb .nil ok.pas (okN_of h2).1) (key _ fun σ H Q w => ?_)
        cases es with
        | nil => exact nilA w
        | cons _ _ => cases h3
      | cons y ys => exact PE.mono (pe_make M G hr hg hm hb .nil ok.pas A (okN_of h2).1 (star_not (st y List.mem_cons_self)) (star_any fun w hw => st w (List.mem_cons_of_mem _ hw))) (key _ fun _ _ _ w => w)
    · cases h
  | .lc own t it cd e, c, cl, X, ok, x, h => by
    unfold chkE at h
    split at h
    · rename_i y tg i fs scope pos
      obtain ⟨h1, h7, h8⟩ := and3 h
      obtain ⟨h1, h5, h6⟩ := and3 h1
      obtain ⟨h1, h3, h4⟩ := and3 (show ((_ && _) && _) = true from h1)
      have B : BlkOk X.N X.env.scope scope (ownP c.N own) := by
        rw [ok.N, ok.sc]
        exact blkOk_by h1
      have hs : ∀ j ∈ t.slots, j ∈ own := fun j hj => by simpa using List.all_eq_true.mp h4 j hj
      have ho : (ownP c.N own).map (·.2) = own := by
        unfold ownP
        rw [List.map_map]
        exact List.map_id' own
      have PI0 := sndIt hF it ok (tg := tg) _ h5
      have key : ∀ {tt : TT}, (∀ σ H Q, tB (lE X.K cl.noE F cd) σ H Q → tt σ H Q) → (∀ (s : Shared) (H : Hp) (C : Addr) (cs : List (Str × Addr)) (fp : List Addr), PTs (X.blk s H scope (compEnvC scope cs C X.env) fp) fs tt) → PE X (.ListComp y [⟨tg, i, fs, 0⟩] scope pos) (lE X.K cl F (.lc own t it cd e)) := fun {tt} ht hp => by
        refine PE.mono (pe_lc ok.calm ok.nd PI0 B (fun s H C cs fp => show PG _ tg (lG X.K cl.noE t) from sndTg (ok.blk s H C cs fp) t _ h3) hp (fun s H C cs fp => show PE _ y (lE X.K cl.noE F e) from (sndE hF e (ok.blk s H C cs fp) _ h7).v) (folded_not (not_t h6))) fun σ H Q w => ?_
        rw [ho]
        exact lc_snd hF hs ht w
      refine Snd.plain ?_ rfl
      split at h8
      · split at h8
        · refine key (tt := tYes) (fun σ H Q w => ?_) fun s H C cs fp => pts_nil
          obtain ⟨m, ρ, S, R, re, w⟩ := w
          obtain ⟨b, eb, w⟩ := up_here (show up X.K cl.noE m H _ (.bl true) S from w) R (.bl true)
          cases eb
          exact w
        · cases h8
      · obtain ⟨h8, h9⟩ := and2 h8
        exact key (fun _ _ _ w => w) fun s H C cs fp => pts_one ((sndE hF cd (ok.blk s H C cs fp) _ h8).t h9)
      · cases h8
    · cases h
  | .lc2 own t it own1 t1 it1 e, c, cl, X, ok, x, h => by
    unfold chkE at h
    split at h
    · rename_i y tg i tg1 i1 scope pos
      obtain ⟨hABC, hD⟩ := and2 h
      obtain ⟨hA, hB, h7⟩ := and3 hABC
      obtain ⟨h1, h3, h4⟩ := and3 hA
      obtain ⟨h5, h6⟩ := and2 hB
      obtain ⟨hD1, hD2⟩ := and2 hD
      obtain ⟨k3, k4, k5⟩ := and3 hD1
      obtain ⟨k6, k7⟩ := and2 hD2
      have B : BlkOk X.N X.env.scope scope (ownP c.N own) := by
        rw [ok.N, ok.sc]
        exact blkOk_by h1
      have hs : ∀ j ∈ t.slots, j ∈ own := fun j hj => by simpa using List.all_eq_true.mp h4 j hj
      have hs1 : ∀ j ∈ t1.slots, j ∈ own1 := fun j hj => by simpa using List.all_eq_true.mp k4 j hj
      have ho : (ownP c.N own).map (·.2) = own := by
        unfold ownP
        rw [List.map_map]
        exact List.map_id' own
      have hv : ∀ j ∈ own1, j ∈ (ownP c.N own).map (·.2) := fun j hj => by
        rw [ho]
        simpa using List.all_eq_true.mp k5 j hj
      refine Snd.plain (PE.mono (pe_lc2 ok.calm ok.nd (sndIt hF it ok (tg := tg) _ h5) B hv (fun s H C cs fp => show PG _ tg (lG X.K cl.noE t) from sndTg (ok.blk s H C cs fp) t _ h3) (fun s H C cs fp => pts_nil) (fun s H C cs fp => show PI _ tg1 i1 (lI X.K cl.noE F it1) from sndIt hF it1 (ok.blk s H C cs fp) (tg := tg1) _ k6) (fun s H C cs fp => show PG _ tg1 (lG X.K cl.noE t1) from sndTg (ok.blk s H C cs fp) t1 _ k3) (fun s H C cs fp => pts_nil) (fun s H C cs fp => show PE _ y (lE X.K cl.noE F e) from (sndE hF e (ok.blk s H C cs fp) _ h7).v) (folded_not (not_t h6)) (fun env v => folded_not (not_t k7) v)) fun σ H Q w => ?_) rfl
      rw [ho]
      exact lc2_snd hF hs hs1 w
    · cases h
  | .dc own t it k e, c, cl, X, ok, x, h => by
    unfold chkE at h
    split at h
    · rename_i z y tg i scope pos
      obtain ⟨h1, h7, h8⟩ := and3 h
      obtain ⟨h1, h5, h6⟩ := and3 h1
      obtain ⟨h1, h3, h4⟩ := and3 (show ((_ && _) && _) = true from h1)
      have B : BlkOk X.N X.env.scope scope (ownP c.N own) := by
        rw [ok.N, ok.sc]
        exact blkOk_by h1
      have hs : ∀ j ∈ t.slots, j ∈ own := fun j hj => by simpa using List.all_eq_true.mp h4 j hj
      have ho : (ownP c.N own).map (·.2) = own := by
        unfold ownP
        rw [List.map_map]
        exact List.map_id' own
      have PI0 := sndIt hF it ok (tg := tg) _ h5
      refine Snd.plain (PE.mono (pe_dc ok.calm ok.nd PI0 B (fun s H C cs fp => show PG _ tg (lG X.K cl.noE t) from sndTg (ok.blk s H C cs fp) t _ h3) (fun s H C cs fp => pts_nil) (fun s H C cs fp => show PE _ z (lE X.K cl.noE F k) from (sndE hF k (ok.blk s H C cs fp) _ h7).v) (fun s H C cs fp => show PE _ y (lE X.K cl.noE F e) from (sndE hF e (ok.blk s H C cs fp) _ h8).v) (folded_not (not_t h6))) fun σ H Q w => ?_) rfl
      rw [ho]
      exact dc_snd hF hs w
    · cases h
  | .orv a b, c, cl, X, ok, x, h => by
    unfold chkE at h
    split at h
    · obtain ⟨h1, h2⟩ := and2 h
      have A := (sndE hF a ok _ h1).v
      have B := (sndE hF b ok _ h2).v
      refine ⟨PE.mono (pe_orT A (pe_one B)) fun σ H Q q => ?_, fun ht => by cases ht⟩
      obtain ⟨m, ρ, S, R, re, q⟩ := q
      refine le_step hF a R re q fun d S1 m1 H1 v q le R1 rd re1 => ?_
      split at q
      · cases rd
        exact ⟨false, rfl, (if_neg Bool.false_ne_true).mpr (le_step hF b R1 re1 q fun d2 S2 m2 H2 v2 q2 le2 R2 rd2 re2 => q2 m2 H2 v2 (le.trans le2) R2 rd2)⟩
      · rename_i i
        cases rd
        refine ⟨i != 0, rfl, ?_⟩
        by_cases e : i = 0
        · subst e
          rw [if_pos rfl] at q
          exact (if_neg (by decide)).mpr (le_step hF b R1 re1 q fun d2 S2 m2 H2 v2 q2 le2 R2 rd2 re2 => q2 m2 H2 v2 (le.trans le2) R2 rd2)
        · rw [if_neg e] at q
          exact (if_pos (by simpa using e)).mpr (up_here (up_le le q) R1 (.int i))
      · exact q.elim
    · cases h
  | .ind neg a b, c, cl, X, ok, x, h => by
    unfold chkE at h
    split at h
    · obtain ⟨h123, h4⟩ := and2 h
      obtain ⟨h1, h2, h3⟩ := and3 h123
      have A := (sndE hF a ok _ h2).v
      have B := (sndE hF b ok _ h3).v
      have e := of_decide_eq_true h1
      have hm := not_t h4
      subst e
      have key : ∀ {σ H Q}, lE X.K cl F (.ind neg a b) σ H Q → tOp (rInD X.K cl neg) (lE X.K cl F a) (lE X.K cl F b) σ H Q := fun {σ H Q} q => by
        obtain ⟨m, ρ, S, R, re, q⟩ := q
        refine le_step hF a R re q fun d S1 m1 H1 v q le R1 rd re1 => le_step hF b R1 re1 q fun d2 S2 m2 H2 v2 q2 le2 R2 rd2 re2 => ?_
        exact ⟨m2, S2, d, d2, R2, rd.mono le2, rd2, inD_mono (fun k z => up_here (up_le (le.trans le2) z) R2 (.bl _)) q2⟩
      refine ⟨PE.mono (pe_cmpR (op_inD (cl := cl) neg ok.units) A B hm) fun σ H Q => key, fun _ => ?_⟩
      exact PT.mono (pt_cmpR (op_inD (cl := cl) neg ok.units) A B hm) fun σ H Q q => key q
    · cases h
  | .lk e, c, cl, X, ok, x, h => by
    have h : (!isComp x && chkE e c x) = true := h
    obtain ⟨_, h⟩ := and2 h
    refine ⟨PE.mono (pe_lock (sndE hF e ok x h).v) fun σ H Q w => ?_, fun z => by cases z⟩
    obtain ⟨m, ρ, S, R, re, n, kvs, g, w⟩ := w
    obtain ⟨a, hm, l, h1, q⟩ := R.get g
    refine ⟨a, .dK l, h1, trivial, fun od => ?_⟩
    have le1 : Le m H m (upd H a (.frz od (.dK l))) := le_set h1 trivial
    have R1 : RS X.K cl m (upd H a (.frz od (.dK l))) (S.set n (.fdct kvs)) := R.set hm h1 trivial ⟨od, l, upd_same, q.mono le1⟩
    refine ⟨m, ρ, S.set n (.fdct kvs), R1, re.mono le1, wpE_mono hF e (fun x S' ⟨g', h⟩ m' H' v le' R' rd' => ?_) (fun _ _ z => z.elim) w⟩
    have ha : H' a = some (.frz od (.dK l)) := le'.frz _ _ _ upd_same
    refine ⟨ha, ?_⟩
    have le2 : Le m H m' (upd H' a (.dK l)) := by
      have ne : ∀ {b : Addr} {v : HO}, H b = some v → ¬ Mu v → b ≠ a := fun {b v} h n z => by
        rw [z, h1] at h
        cases h
        exact n trivial
      refine ⟨le'.pre, fun b vs hb => ?_, fun b o u hb => ?_, fun b φ hb => ?_⟩
      · have hn := ne hb fun z => z
        rw [upd_ne hn]
        exact le'.tup b vs (by rw [upd_ne hn]; exact hb)
      · have hn := ne hb fun z => z
        rw [upd_ne hn]
        exact le'.frz b o u (by rw [upd_ne hn]; exact hb)
      · have hn := ne hb fun z => z
        rw [upd_ne hn]
        exact le'.ext b φ (by rw [upd_ne hn]; exact hb)
    exact h m' _ v le2 (R'.unl (le'.pre _ _ hm) ha (q.mono le2) (cl.mono _ _ _ _ le2 R.gr)) (rd'.monoW (lw_unl ha))
  | .nild a b, c, cl, X, ok, x, h => by
    unfold chkE at h
    split at h
    · rename_i x op y pos
      obtain ⟨h12, h3, h4⟩ := and3 h
      obtain ⟨h1, h2⟩ := and2 h12
      have e := of_decide_eq_true h1
      subst e
      have A := (sndE hF a ok x h2).v
      have B := (sndE hF b ok y h3).v
      have hu : X.A.units < cLine := by have := ok.units; omega
      have key : ∀ {σ H Q}, lE X.K cl F (.nild a b) σ H Q → tOp (rNil X.K cl) (lE X.K cl F a) (lE X.K cl F b) σ H Q := fun {σ H Q} q => by
        obtain ⟨m, ρ, S, R, re, q⟩ := q
        refine le_step hF a R re q fun d S1 m1 H1 v q le R1 rd re1 => le_step hF b R1 re1 q fun d2 S2 m2 H2 v2 q2 le2 R2 rd2 re2 => ?_
        exact ⟨m2, S2, d, d2, R2, rd.mono le2, rd2, nilD_mono (fun k z => up_here (up_le (le.trans le2) z) R2 (.bl _)) q2⟩
      refine ⟨PE.mono (pe_cmpR (op_nil (cl := cl) hu) A B (not_t h4)) fun σ H Q => key, fun _ => ?_⟩
      exact PT.mono (pt_cmpR (op_nil (cl := cl) hu) A B (not_t h4)) fun σ H Q q => key q
    · cases h
  | .lenO e, c, cl, X, ok, x, h => by
    unfold chkE at h
    split at h
    · rename_i k m f o
      split at h
      · rename_i n p y pos
        obtain ⟨h123, h4, h5⟩ := and3 h
        obtain ⟨h1, h2, h3⟩ := and3 h123
        obtain ⟨q, hq, h8⟩ := List.any_eq_true.mp h5
        obtain ⟨k1, k2⟩ := and2 h8
        obtain ⟨qk, qf⟩ := q
        have e0 := of_decide_eq_true h1
        have e1 := of_decide_eq_true k1
        have e2 := of_decide_eq_true k2
        dsimp only at e1 e2
        subst e0 e1 e2
        obtain ⟨C, kk, g, fd, ps, hC, hc, hmt, G, hr, hb⟩ := (ok.lens _ _ hq).ex
        have O := (sndE hF o ok _ h4).v
        refine Snd.plain ?_ rfl
        obtain ⟨ex, b1, b2, b3, b4⟩ := bltn_of ok h2
        subst ex
        have r : CallR X (.builtin "len") (fun vs H Q => ∃ a dx fs, vs = [.ref a] ∧ H a = some (.ins C dx fs) ∧ spOf X.K cl.at_ F qf 1 [.ref a] H (fun v H' => ∃ n : Int, v = .int n ∧ 0 ≤ n ∧ n < 2 ^ 63 ∧ Q (.int n) H') cl.E) := by
          intro pins s σ H xs us Q I rv ⟨a, dx, fs, ex, h1, w⟩
          subst ex
          obtain ⟨u, rfl, ru⟩ := vals1 rv
          cases ru
          exact call_lenO G hr hmt hb ok.pas I h1 w
        have ny := not_t h3
        refine PE.mono (pe_callB r b1 b2 PySem.boot_len (pa_cons O pa_nil (star_not ny)) b3 b4 (star_not ny) rfl) fun σ H Q w => ?_
        obtain ⟨m, ρ, S, R, re, w⟩ := w
        show lE X.K cl F o σ H _
        refine le_step hF o R re w fun d S1 m1 H1 v w le R1 rd re1 => ?_
        split at w
        · rename_i c' fs e
          obtain ⟨rfl, l0, w⟩ := w
          obtain ⟨nn, a, C', dx, gs, rfl, hm, rfl, g, hcl, h1, qr⟩ := rd.ins R1 e
          rw [hC] at hcl
          cases hcl
          refine ⟨a, dx, gs, rfl, h1, ?_⟩
          refine ⟨cl, rfl, rfl, m1, S1, _, R1, .cons rd .nil, rfl, hF _ _ _ _ _ _ _ (fun d S2 z m2 H2 v le2 R2 rd2 => ?_) (fun _ _ z => z) w⟩
          unfold lenOD at z
          split at z
          · cases rd2
            exact ⟨_, rfl, z.1, z.2.1, z.2.2 m2 H2 _ (le.trans le2) R2 (.int _)⟩
          · exact z.elim
        · exact w.elim
      · cases h
    · cases h
  | .inR neg e a b, c, cl, X, ok, x, h => by
    unfold chkE at h
    split at h
    · rename_i x op w pos
      obtain ⟨hm, h⟩ := and2 h
      split at h
      · rename_i r p y z q
        obtain ⟨h15, h6, h7⟩ := and3 h
        obtain ⟨h13, h4, h5⟩ := and3 h15
        obtain ⟨h1, h2, h3⟩ := and3 h13
        have eo := of_decide_eq_true h1
        subst eo
        have A := (sndE hF e ok _ h2).v
        have A1 := (sndE hF a ok _ h4).v
        have A2 := (sndE hF b ok _ h5).v
        exact ⟨PE.mono (pe_cmpR (op_rng neg) A (pe_rng2 ok h3 A1 A2 (not_t h6) (not_t h7)) (not_t hm)) fun σ H Q => inR_v hF, fun _ => PT.mono (pt_cmpR (op_rng neg) A (pe_rng2 ok h3 A1 A2 (not_t h6) (not_t h7)) (not_t hm)) fun σ H Q q => inR_v hF q⟩
      · cases h
    · cases h
  | .methk k mt f o es d ks, c, cl, X, ok, x, h => by
    unfold chkE at h
    split at h
    · rename_i y n apos z xs kws pos
      obtain ⟨h17, h8⟩ := and2 h
      obtain ⟨h15, h6, h7⟩ := and3 h17
      obtain ⟨h13, h4, h5⟩ := and3 h15
      obtain ⟨h1, h2, h3⟩ := and3 h13
      have e := of_decide_eq_true h1
      subst e
      obtain ⟨p, hp, h9⟩ := List.any_eq_true.mp h8
      obtain ⟨k14, k5⟩ := and2 h9
      obtain ⟨k12, k3, k4⟩ := and3 k14
      obtain ⟨k1, k2⟩ := and2 k12
      have e1 := of_decide_eq_true k1
      have e2 := of_decide_eq_true k2
      have e3 := of_decide_eq_true k3
      have e4 := of_decide_eq_true k4
      obtain ⟨C, kk, g, fd, ps, dv, gg, gh, hC, hc, hmt, G, hr, hkp, hdv, hb2, hb3⟩ := (ok.mtk p hp).ex
      have O := (sndE hF o ok _ h2).v
      have A := sndEs hF es ok _ h3
      have st := chkEs_star h3
      have B := sndKs hF ks ok kws h7
      have hln := of_decide_eq_true h6
      have hl : (z :: xs).length + kws.length < 15 + 1 := by
        rw [List.length_cons]
        omega
      subst e1 e2 e3
      have key : ∀ (gV : List V → List V → List V) (kl : Nat), ks.len = kl → (∀ vs zs m H ds es', RDs X.K m H ds vs → RDs X.K m H es' zs → es'.length = kl → RDs X.K m H (ds ++ arrK d es') (gV vs zs) ∧ (arrK d es').length = 3) →
          ∀ σ H Q, lE X.K cl F (.methk p.k p.m p.f o es d ks) σ H Q → tMethN C p.m p.ar kl (spOf X.K cl.at_ F p.f (p.ar + 3)) gV cl.E (lE X.K cl F o) (lA X.K cl F es) (lA X.K cl F ks) σ H Q := fun gV kl hkl hg σ H Q w => by
        obtain ⟨m, ρ, S, R, re, w⟩ := w
        refine le_step hF o R re w fun d0 S1 m1 H1 v w le R1 rd re1 => ?_
        split at w
        · rename_i c' fs e
          obtain ⟨rfl, l0, w⟩ := w
          obtain ⟨nn, a, C', dx, gs, rfl, hm, rfl, g, hcl, h1, qr⟩ := rd.ins R1 e
          rw [hC] at hcl
          cases hcl
          refine ⟨a, dx, gs, rfl, h1, ?_, ?_⟩
          · rcases qr.lookup p.m with ⟨d, v, l1, l2, l3⟩ | ⟨l1, l2⟩
            · rw [l1] at l0; cases l0
            · exact l2
          · refine la_step hF es R1 re1 (wpEs_len hF es w) fun ds S2 m2 H2 vs w2 le2 R2 rd2 re2 => ?_
            refine la_step hF ks R2 re2 (wpEs_len hF ks w2.1) fun zs S3 m3 H3 us w3 le3 R3 rd3 re3 => ?_
            have e5 : ds.length + 1 = p.ar := by rw [w2.2, chkEs_len h3, e4, List.length_cons]
            have hz : zs.length = kl := by rw [w3.2, hkl]
            obtain ⟨r1, r2⟩ := hg (.ref a :: vs) us m3 H3 (.ref nn :: ds) zs (.cons ((rd.mono le2).mono le3) (rd2.mono le3)) rd3 hz
            refine ⟨by rw [← rd2.length]; exact e5, by rw [← rd3.length]; exact hz, cl, rfl, rfl, m3, S3, _, R3, r1, ?_, hF _ _ _ _ _ _ _ (fun _ _ => up_le ((le.trans le2).trans le3)) (fun _ _ z => z) w3.1⟩
            rw [← r1.length, List.length_append, r2, List.length_cons, e5]
        · exact w.elim
      have hkv : ks.len = kws.length := by rw [chkEs_len h7, List.length_map]
      have lkv : ∀ {w : Str} {v : Expr} {q : Pos} {ws : List Keyword}, keywordEach (⟨some w, v, q⟩ :: ws) X.env = (some w, eval v X.env) :: keywordEach ws X.env := rfl
      cases d with
      | some dd =>
        obtain ⟨hd, hk⟩ := and2 k5
        have ed := D.beq_eq hd
        subst ed
        have hk := of_decide_eq_true hk
        match kws, hk, B, hkv, hln with
        | [⟨a1, v1, q1⟩, ⟨a3, v3, q3⟩], hk, B, hkv, hln =>
          simp only [List.map_cons, List.map_nil, List.cons.injEq, and_true] at hk
          obtain ⟨rfl, rfl⟩ := hk
          refine Snd.plain (PE.mono (pe_methN O hc hmt G hr hkp hb2 ok.pas A B rfl rfl (star_not (st z List.mem_cons_self)) ?_ (methK_eval (not_t h4) st rfl (by have := hln; simp only [List.length_cons, List.length_nil] at this ⊢; omega) h5)) (key _ 2 hkv fun vs zs m H ds es' r1 r2 hl2 => ?_)) rfl
          · rw [star_any st]
            rfl
          · match es', zs, r2, hl2 with
            | [x1, x2], [_, _], .cons ra (.cons rb .nil), _ => exact ⟨r1.append (.cons ra (.cons (hdv m H) (.cons rb .nil))), rfl⟩
      | none =>
        have hk := of_decide_eq_true k5
        match kws, hk, B, hkv, hln with
        | [⟨a1, v1, q1⟩, ⟨a2, v2, q2⟩, ⟨a3, v3, q3⟩], hk, B, hkv, hln =>
          simp only [List.map_cons, List.map_nil, List.cons.injEq, and_true] at hk
          obtain ⟨rfl, rfl, rfl⟩ := hk
          refine Snd.plain (PE.mono (pe_methN O hc hmt G hr hkp hb3 ok.pas A B rfl rfl (star_not (st z List.mem_cons_self)) ?_ (methK_eval (not_t h4) st rfl (by have := hln; simp only [List.length_cons, List.length_nil] at this ⊢; omega) h5)) (key _ 3 hkv fun vs zs m H ds es' r1 r2 hl2 => ?_)) rfl
          · rw [star_any st]
            rfl
          · match es', zs, r2, hl2 with
            | [x1, x2, x3], [_, _, _], .cons ra (.cons rb (.cons rc .nil)), _ => exact ⟨r1.append (.cons ra (.cons rb (.cons rc .nil))), rfl⟩
    · cases h
  | .gix g kvs i, c, cl, X, ok, x, h => by
    unfold chkE at h
    split at h
    · rename_i y p z pos
      obtain ⟨h1234, h5, h6⟩ := and3 h
      obtain ⟨h12, h3, h4⟩ := and3 h1234
      obtain ⟨h1, h2⟩ := and2 h12
      have e1 := of_decide_eq_true h1
      subst e1
      obtain ⟨q, hq, h7⟩ := List.any_eq_true.mp h4
      obtain ⟨k1, k2⟩ := and2 h7
      obtain ⟨qx, qk⟩ := q
      have e2 := of_decide_eq_true k1
      have e3 := of_decide_eq_true k2
      dsimp only at e2 e3
      subst e2 e3
      obtain ⟨a, g1, g2⟩ := ok.gds _ _ hq
      have A : PE X (.Name qx p) (tC (.ref a)) := pe_glob (show X.env.scope.names.lookup _ = _ by rw [ok.sc]; exact gl_of h2) g1 rfl (okN_of h3).1
      have B := (sndE hF i ok _ h5).v
      refine Snd.plain (PE.mono (pe_ix ix_kdict A B (plain_ix (by simpa using h6))) fun σ H Q q => ?_) rfl
      obtain ⟨m, ρ, S, R, re, q⟩ := q
      refine le_step hF i R re q fun d S1 m1 H1 v q le R1 rd re1 => ?_
      unfold gixD at q
      split at q
      · rename_i z
        split at q
        · rename_i n en
          cases rd
          exact ⟨a, _, .int n, rfl, rfl, g2 _ _ en, q m1 H1 _ le R1 (.int n)⟩
        · exact q.elim
      · exact q.elim
    · cases h
  | .dictF e, c, cl, X, ok, x, h => by
    unfold chkE at h
    split at h
    · obtain ⟨h1, h2, h3⟩ := and3 h
      exact Snd.plain (pe_dictF hF ok h1 (sndE hF e ok _ h2).v (not_t h3)) rfl
    · cases h
  | .ixF o k, c, cl, X, ok, x, h => by
    unfold chkE at h
    split at h
    · obtain ⟨h1, h2, h3⟩ := and3 h
      exact Snd.plain (pe_ixF hF ok (sndE hF o ok _ h1).v (sndE hF k ok _ h2).v (plain_ix (by simpa using h3))) rfl
    · cases h
  | .minF o, c, cl, X, ok, x, h => by
    unfold chkE at h
    split at h
    · obtain ⟨h123, h4, h5⟩ := and3 h
      obtain ⟨h1, h2, h3⟩ := and3 h123
      have en := of_decide_eq_true h2
      subst en
      exact Snd.plain (pe_minF hF ok h1 (sndE hF o ok _ h3).v (base_not (by simpa using h4)) h5) rfl
    · cases h
  | .dctP, c, cl, X, ok, x, h => by
    unfold chkE at h
    split at h
    · refine Snd.plain (PE.mono pe_dnewT fun σ H Q q => ?_) rfl
      obtain ⟨m, ρ, S, R, re, q⟩ := q
      exact fun p np => q _ _ _ (le_push np) (R.push np ⟨[], upd_same, .nil⟩) (.ref (R.last p))
    · cases h
  | .ixP o a b, c, cl, X, ok, x, h => by
    unfold chkE at h
    split at h
    · obtain ⟨h123, h4, h5⟩ := and3 h
      obtain ⟨h1, h2, h3⟩ := and3 h123
      have O := (sndE hF o ok _ h1).v
      have A := (sndE hF a ok _ h2).v
      have B := (sndE hF b ok _ h4).v
      refine Snd.plain (PE.mono (pe_ix (ix_dict (by have := ok.units; omega)) O (pe_tup (pa_cons A (pa_cons B pa_nil (star_not (not_t h5))) (star_not (not_t h3)))) (fun _ _ => rfl)) fun σ H Q q => ?_) rfl
      obtain ⟨m, ρ, S, R, re, q⟩ := q
      refine le_step hF o R re q fun d S1 m1 H1 v q le R1 rd re1 => le_step hF a R1 re1 q fun d2 S2 m2 H2 v2 q2 le2 R2 rd2 re2 => le_step hF b R2 re2 q2 fun d3 S3 m3 H3 v3 q3 le3 R3 rd3 re3 => ?_
      refine ⟨by show 2 ≤ sizeLine; decide, fun p np => ?_⟩
      unfold pIx at q3
      split at q3
      · rename_i pr k e1 e2
        obtain ⟨n, l⟩ := pr
        obtain ⟨rfl, g⟩ := dtp_some e1
        have ek := keys2_some (rd2.mono le3) rd3 e2
        split at q3
        · rename_i w ew
          have rd' := rd.mono (le2.trans le3)
          cases rd' with
          | ref hm =>
            obtain ⟨kvs, h1, qk⟩ := R3.at_ _ _ _ hm g
            rcases qk.get k with ⟨d', v', g1, g2, g3⟩ | ⟨g1, g2⟩
            · have g1' : pGet l k = some d' := g1
              dsimp only at ew
              rw [g1'] at ew
              cases ew
              refine ⟨_, v', rfl, ?_, (up_le (m1 := m3) (H1 := H3) ((le.trans le2).trans le3) q3) m3 _ v' (le_new np) (R3.new np) (g3.mono (le_new np))⟩
              rw [← g2]
              exact DGet.t (by rw [upd_ne (ne_of_none h1 np)]; exact h1) (by rw [upd_same, ek])
            · have g1' : pGet l k = none := g1
              dsimp only at ew
              rw [g1'] at ew
              cases ew
        · exact q3.elim
      · exact q3.elim
    · cases h
  | .inP neg a b o, c, cl, X, ok, x, h => by
    unfold chkE at h
    split at h
    · obtain ⟨h12345, h6, h7⟩ := and3 h
      obtain ⟨h123, h4, h5⟩ := and3 h12345
      obtain ⟨h1, h2, h3⟩ := and3 h123
      have A := (sndE hF a ok _ h2).v
      have B := (sndE hF b ok _ h4).v
      have O := (sndE hF o ok _ h6).v
      have e := of_decide_eq_true h1
      have hm := not_t h7
      subst e
      have T := fun (k1 : Nat) (p1 : Pos) => pe_tup (x1 := k1) (pos := p1) (pa_cons A (pa_cons B pa_nil (star_not (not_t h5))) (star_not (not_t h3)))
      have key : ∀ {σ H Q}, lE X.K cl F (.inP neg a b o) σ H Q → tOp (rInP neg) (tTup (tCons (lE X.K cl F a) (tCons (lE X.K cl F b) tNil))) (lE X.K cl F o) σ H Q := fun {σ H Q} q => by
        obtain ⟨m, ρ, S, R, re, q⟩ := q
        refine le_step hF a R re q fun d S1 m1 H1 v q le R1 rd re1 => le_step hF b R1 re1 q fun d2 S2 m2 H2 v2 q2 le2 R2 rd2 re2 => ?_
        refine ⟨by show 2 ≤ sizeLine; decide, fun p np => ?_⟩
        refine le_step hF o (R2.new np) (re2.mono (le_new np)) q2 fun d3 S3 m3 H3 v3 q3 le3 R3 rd3 re3 => ?_
        have hp := le3.tup p [v, v2] upd_same
        unfold pIn at q3
        split at q3
        · rename_i pr k e1 e2
          obtain ⟨n, l⟩ := pr
          obtain ⟨rfl, g⟩ := dtp_some e1
          have l3 := (le_new (m := m2) (u := .tup [v, v2]) np).trans le3
          have ek := keys2_some (rd.mono (le2.trans l3)) (rd2.mono l3) e2
          cases rd3 with
          | ref hm3 =>
            obtain ⟨kvs, h1, qk⟩ := R3.at_ _ _ _ hm3 g
            refine ⟨p, _, kvs, k, rfl, rfl, h1, by rw [hp, ek], ?_⟩
            have es : (L2.valV kvs k).isSome = (pGet l k).isSome := by
              rcases qk.get k with ⟨d', v', g1, g2, g3⟩ | ⟨g1, g2⟩
              · have g1' : pGet l k = some d' := g1
                rw [g1', g2]
                rfl
              · have g1' : pGet l k = none := g1
                rw [g1', g2]
                rfl
            rw [es]
            exact up_here (up_le ((le.trans le2).trans l3) q3) R3 (.bl _)
        · exact q3.elim
      refine ⟨PE.mono (pe_cmpR (op_inP neg ok.units) (T _ _) O hm) fun σ H Q => key, fun _ => ?_⟩
      exact PT.mono (pt_cmpR (op_inP neg ok.units) (T _ _) O hm) fun σ H Q q => key q
    · cases h
  | .told ws e, c, cl, X, ok, x, h => by
    unfold chkE at h
    split at h
    · rename_i y p params body scope lpos pos
      split at h
      · rename_i q hc
        obtain ⟨h, h7⟩ := and2 h
        obtain ⟨h, h6⟩ := and2 h
        obtain ⟨h, h5⟩ := and2 h
        obtain ⟨h, h4⟩ := and2 h
        obtain ⟨h, h3⟩ := and2 h
        obtain ⟨h1, h2⟩ := and2 h
        obtain ⟨y', ws'⟩ := q
        have e1 : y' = y := of_decide_eq_true h1
        have e2 : ws' = ws := of_decide_eq_true h2
        subst e1 e2
        have ep : params = ⟨[], [], none, [], [], none, []⟩ := by
          unfold noArgs at h5
          split at h5
          · rfl
          · cases h5
        subst ep
        obtain ⟨k, a, g, c0, P, pg, bg, sg, dV, kV, doc, pm, cdv, ct, oc, an, od, osl, Ng, t1, t2, t3, t4, t5, t6, t7, t8, t9, t10, t11, t12, t13, t14, t15, t16, k40, low⟩ := (ok.tld _ _ hc).ex
        have hb : ∀ (A : Around) (outer : List PySem.Env) (s : Shared) (H : Hp) (E : L2.XK) (f c' : Addr), Room k (A.deeper (LamX.lamEnv X scope s.heap.objs.size f c')) →
            PE (LamX.lamCx X A outer s H E scope f c') body (fun σ H1 Q => ∃ cl1 : Cl, cl1.at_ = cl.at_ ∧ cl1.E = E ∧ lE X.K cl1 F e σ H1 Q) := fun A outer s H E f c' hr => by
          refine ⟨fun pins s2 σ H2 Q I ⟨cl1, q1, q2, w⟩ => ?_⟩
          obtain ⟨lf, lm⟩ := low A outer s H E scope f c' hr
          have TK : Takes (LamX.lamCx X A outer s H E scope f c') (fun cls d _ H => E cls d H) := takes_of rfl rfl rfl rfl
          have ok1 : XOk (inLam c scope) cl1 F (LamX.lamCx X A outer s H E scope f c') := {
            N := ok.N
            nd := ok.nd
            sc := rfl
            calm := rfl
            units := by
              have := hr.un
              show (A.deeper _).units + 650 < cLine
              omega
            tg := fun z => nomatch z
            fns := fun p hp => by
              obtain ⟨p0, hp0, rfl⟩ := List.mem_map.mp hp
              rw [q1]
              exact lf p0 hp0
            flds := fun k f hk => by
              obtain ⟨C, z1, z2⟩ := ok.flds k f hk
              exact ⟨C, by rw [q1]; exact z1, z2⟩
            mts := fun j m f1 ar hp => by
              obtain ⟨⟨j0, m0, f0, a0⟩, hp0, ez⟩ := List.mem_map.mp hp
              cases ez
              rw [q1]
              exact lm _ _ _ _ hp0
            mks := fun _ _ _ _ hp => nomatch hp
            csts := ok.csts
            gds := ok.gds
            free := ok.free
            pas := by rw [q2]; exact passes_call TK fun _ _ _ _ z => z
            excs := fun _ _ hp => nomatch hp
            tld := fun _ _ z => nomatch z
            lamt := fun z => nomatch z
            mtk := fun _ hp => nomatch hp
            lens := fun _ _ hp => nomatch hp }
          exact (sndE hF e ok1 body h7).v.run pins s2 σ H2 Q I w
        refine Snd.plain (PE.mono (LamX.pe_lamcall (T := cl.at_.T) (by show X.env.scope.names.lookup _ = _; rw [ok.sc]; exact gl_of h4) t1 t2 t3 t4 t5 t6 t7 t8 t9 t10 t11 t12 t13 t14 (LamX.lamS_by (by rw [ok.sc]; exact h6)) rfl (fun _ _ _ _ _ => rfl) hb (okN_of h3).1 t15 t16) fun σ H Q w => ?_) rfl
        obtain ⟨m, ρ, S, R, re, w⟩ := w
        refine ⟨R.tb, fun H1 eN T1 => ?_⟩
        have le : Le m H m H1 := ⟨fun _ _ z => z, fun a vs z => eN a _ z (fun ps q => by cases q), fun a o u z => eN a _ z (fun ps q => by cases q), fun a φ z => eN a _ z (fun ps q => by cases q)⟩
        have R1 : RS X.K cl m H1 S := ⟨R.len, R.nd, fun n a o e1 e2 => (R.at_ n a o e1 e2).keep le (fun u z => eN a u z fun ps q => by
          subst q
          exact RO.no_tbl (R.at_ n a o e1 e2) z), cl.mono _ _ _ _ le R.gr, T1⟩
        let cl1 : Cl := ⟨cl.at_, fun m' H' => cl.ok m' H' ∧ Le m H1 m' H', fun m1 H1' m2 H2' le2 z => ⟨cl.mono _ _ _ _ le2 z.1, z.2.trans le2⟩, fun cls d H' => ∃ k C w, cl.at_ k = some C ∧ cls = .ref C ∧ d = none ∧ ws'.lookup k = some w ∧ ∀ H2, NewH H' H2 → Q (.str w) H2⟩
        have toC : ∀ {m' : List Addr} {H' : Hp} {S' : Store}, RS X.K cl1 m' H' S' → RS X.K cl m' H' S' := fun r => ⟨r.len, r.nd, r.at_, r.gr.1, r.tb⟩
        refine ⟨cl1, rfl, rfl, m, ρ, S, ⟨R1.len, R1.nd, R1.at_, ⟨R1.gr, Le.refl m H1⟩, R1.tb⟩, re.mono le, wpE_mono hF e (fun d S1 z => ?_) (fun c1 S1 z => ?_) w⟩
        · intro m' H' v le2 r rd p hp
          have r0 := toC r
          have hu : up X.K cl m H Q (.tup [.str "told", d]) S1 := z
          exact hu m' (upd H' p (.tup [.str "told", v])) (.ref p) ((le.trans le2).trans (le_new hp)) (r0.new hp) (.tup (SqT.of upd_same) (.cons (.str _) (.cons (rd.mono (le_new hp)) .nil)))
        · intro m' H' C r hC
          cases hw : ws'.lookup c1 with
          | none =>
            rw [hw] at z
            exact z.elim
          | some w1 =>
            rw [hw] at z
            have hu : up X.K cl m H Q (.str w1) S1 := z
            exact ⟨c1, C, w1, hC, rfl, rfl, hw, fun H2 nw => hu m' H2 (.str w1) ((le.trans r.gr.2).trans (nw.le m')) ((toC r).newH nw) (.str w1)⟩
      · cases h
    · cases h
theorem sndPs (hF : SemMono F) : ∀ (vs : Es) {c : Cxt} {cl : Cl} {X : Cx} (ok : XOk c cl F X) (pos : Pos) (ks : List (Sum Key Nat)) (keys : List (Option Expr)) (values : List Expr), chkKs c ks keys = true → chkEs vs c values = true → keys.length = values.length →
    ∃ trs, PPs X pos keys values trs ∧ ∀ σ H Q, lP X.K cl F ks vs σ H Q → tPairs trs σ H Q
  | .nil, c, cl, X, ok, pos, ks, keys, values, h1, h2, h3 => by
    cases values with
    | cons _ _ => cases h2
    | nil =>
      cases keys with
      | cons _ _ => cases h3
      | nil =>
        cases ks with
        | cons a b => cases a <;> cases h1
        | nil => exact ⟨[], pps_nil, fun σ H Q ⟨m, ρ, S, kk, R, re, hk, q⟩ => by
            cases hk
            exact q m H [] (Le.refl m H) R .nil⟩
  | .cons e es, c, cl, X, ok, pos, ks, keys, values, h1, h2, h3 => by
    cases values with
    | nil => cases h2
    | cons x xs =>
      cases keys with
      | nil => cases h3
      | cons y ys =>
        obtain ⟨g1, g2, g3⟩ := and3 (show (chkE e c x && !starred x && chkEs es c xs) = true from h2)
        cases ks with
        | nil => cases h1
        | cons k kr =>
          cases y with
          | none => cases k <;> cases h1
          | some y =>
            obtain ⟨h4, h5⟩ := and2 (show (chkK c k y && chkKs c kr ys) = true from h1)
            obtain ⟨trs, pp, im⟩ := sndPs hF es ok pos kr ys xs h5 g3 (by simpa using h3)
            refine ⟨_, pps_cons (snd_key ok h4) (sndE hF e ok _ g1).v pp, fun σ H Q ⟨m, ρ, S, kk, R, re, hk, q⟩ => ?_⟩
            obtain ⟨k0, kr', e1, e2, e3⟩ := keys_cons hk
            subst e1
            refine ⟨m, ρ, k0, re, e2, ?_⟩
            refine le_step hF e R re q fun d S1 m1 H1 v q le R1 rd re1 => ?_
            refine im σ H1 _ ⟨m1, ρ, S1, kr', R1, re1, e3, wpEs_mono hF es (fun ds S2 z m2 H2 us le2 R2 rd2 => ?_) (fun _ _ z => z) q⟩
            exact z m2 H2 (v :: us) (le.trans le2) R2 (.cons (rd.mono le2) rd2)
theorem sndEs (hF : SemMono F) : ∀ (es : Es) {c : Cxt} {cl : Cl} {X : Cx} (ok : XOk c cl F X) (xs : List Expr), chkEs es c xs = true → PA X xs (lA X.K cl F es)
  | .nil, c, cl, X, ok, xs, h => by
    cases xs with
    | nil => exact PA.mono pa_nil fun σ H Q ⟨m, ρ, S, R, re, q⟩ => q m H [] (Le.refl m H) R .nil
    | cons _ _ => cases h
  | .cons e es, c, cl, X, ok, xs, h => by
    cases xs with
    | nil => cases h
    | cons x xs =>
      obtain ⟨h1, h2, h3⟩ := and3 (show (chkE e c x && !starred x && chkEs es c xs) = true from h)
      have A := (sndE hF e ok _ h1).v
      have B := sndEs hF es ok _ h3
      refine PA.mono (pa_cons A B (star_not (by simpa using h2))) fun σ H Q q => ?_
      obtain ⟨m, ρ, S, R, re, q⟩ := q
      refine le_step hF e R re q fun d S1 m1 H1 v q le R1 rd re1 => la_step hF es R1 re1 q fun ds S2 m2 H2 vs q2 le2 R2 rd2 re2 => ?_
      exact q2 m2 H2 _ (le.trans le2) R2 (.cons (rd.mono le2) rd2)
theorem sndKs (hF : SemMono F) : ∀ (es : Es) {c : Cxt} {cl : Cl} {X : Cx} (ok : XOk c cl F X) (kws : List Keyword), chkEs es c (kws.map fun w => w.value) = true → PK X kws (lA X.K cl F es)
  | .nil, c, cl, X, ok, kws, h => by
    cases kws with
    | nil => exact PK.mono pk_nil fun σ H Q ⟨m, ρ, S, R, re, q⟩ => q m H [] (Le.refl m H) R .nil
    | cons _ _ => cases h
  | .cons e es, c, cl, X, ok, kws, h => by
    cases kws with
    | nil => cases h
    | cons w kws =>
      obtain ⟨h1, h2, h3⟩ := and3 (show (chkE e c w.value && !starred w.value && chkEs es c (kws.map fun w => w.value)) = true from h)
      have A := (sndE hF e ok _ h1).v
      have B := sndKs hF es ok _ h3
      obtain ⟨nm, z, kp⟩ := w
      refine PK.mono (pk_cons A B) fun σ H Q q => ?_
      obtain ⟨m, ρ, S, R, re, q⟩ := q
      refine le_step hF e R re q fun d S1 m1 H1 v q le R1 rd re1 => la_step hF es R1 re1 q fun ds S2 m2 H2 vs q2 le2 R2 rd2 re2 => ?_
      exact q2 m2 H2 _ (le.trans le2) R2 (.cons (rd.mono le2) rd2)
theorem sndIt (hF : SemMono F) : ∀ (it : It) {c : Cxt} {cl : Cl} {X : Cx} (ok : XOk c cl F X) {tg : Expr} (x : Expr), chkIt it c (isTup tg) x = true → PI X tg x (lI X.K cl F it)
  | .seq e, c, cl, X, ok, tg, x, h => by
    refine PI.mono (pi_seq (sndE hF e ok _ h).v) fun σ H R q => ?_
    obtain ⟨m, ρ, S, RR, re, q⟩ := q
    refine le_step hF e RR re q fun d S1 m1 H1 v q le R1 rd re1 => ?_
    have key : ∀ {l : List D} {G : Store → Prop}, ((d = .tup l ∧ G = fun _ => True) ∨ (d = .fl l ∧ G = fun _ => True) ∨ ∃ n, d = .ref n ∧ lst? S1 n = some l ∧ G = fun S => lst? S n = some l) →
        (∀ m' H' J, Le m H m' H' → RS X.K cl m' H' S1 → Walks X.K cl m' H' J l G → R J H') → ∀ {a : Addr}, v = .ref a → ∃ a, v = .ref a ∧ (((∃ xs, SqL X.K H1 a xs) ∧ R (Itl X.K a) H1) ∨ ((∃ xs, SqT X.K H1 a xs) ∧ R (Itt X.K a) H1)) := by
      intro l G hd k a ev
      subst ev
      refine ⟨a, rfl, ?_⟩
      rcases walks_seq R1 rd hd with ⟨h1, h2⟩ | ⟨h1, h2⟩
      · exact .inl ⟨h1, k _ _ _ le R1 h2⟩
      · exact .inr ⟨h1, k _ _ _ le R1 h2⟩
    unfold itSeq at q
    split at q
    · cases rd with
      | tup ht qt => exact key (.inl ⟨rfl, rfl⟩) q rfl
    · cases rd with
      | fl ht qt => exact key (.inr (.inl ⟨rfl, rfl⟩)) q rfl
    · split at q
      · rename_i l e
        cases rd with
        | ref hm => exact key (.inr (.inr ⟨_, rfl, e, rfl⟩)) q rfl
      · exact q.elim
    · exact q.elim
  | .rng a b, c, cl, X, ok, tg, x, h => by
    unfold chkIt at h
    split at h
    · obtain ⟨h123, h4⟩ := and2 h
      obtain ⟨h1, h2, h3⟩ := and3 h123
      obtain ⟨ex, g1, g2, g3, g4⟩ := bltn_of ok h1
      subst ex
      split at h2
      · have B := (sndE hF b ok _ h3).v
        refine PI.mono (pi_range1 g1 g2 (pa_cons B pa_nil (star_not (not_t h4))) (star_not (not_t h4))) fun σ H R q => ?_
        obtain ⟨m, ρ, S, RR, re, q⟩ := q
        refine le_step hF b RR re (show wpE F b ρ S _ (upX X.K cl) from q) fun d S1 m1 H1 v q le R1 rd re1 => ?_
        cases d with
        | int j =>
          obtain rfl := int_of rd
          obtain ⟨q1, q2, q3, q4, q5⟩ := q
          refine ⟨j, rfl, by omega, by omega, ?_⟩
          have w := walks_rng (cl := cl) (K := X.K) (m1 := m1) (H1 := H1) 0 j
          rw [Int.sub_zero] at w
          exact q5 m1 H1 _ le R1 w
        | _ => exact (show False from q).elim
      · cases h2
    · obtain ⟨h123, h4, h5⟩ := and3 h
      obtain ⟨h1, h2, h3⟩ := and3 h123
      obtain ⟨ex, g1, g2, g3, g4⟩ := bltn_of ok h1
      subst ex
      have A := (sndE hF a ok _ h2).v
      have B := (sndE hF b ok _ h4).v
      refine PI.mono (pi_range2 g1 g2 (pa_cons A (pa_cons B pa_nil (star_not (not_t h5))) (star_not (not_t h3))) (by rw [star_not (not_t h3), star_not (not_t h5)]; rfl) (star_not (not_t h5))) fun σ H R q => ?_
      obtain ⟨m, ρ, S, RR, re, q⟩ := q
      refine le_step hF a RR re q fun d S1 m1 H1 v q le R1 rd re1 => le_step hF b R1 re1 q fun d2 S2 m2 H2 v2 q2 le2 R2 rd2 re2 => ?_
      split at q2
      · cases rd
        cases rd2
        obtain ⟨q1, q2, q3, q4, q5⟩ := q2
        exact ⟨_, _, rfl, ⟨by omega, by omega, by omega, by omega⟩, q5 m2 H2 _ (le.trans le2) R2 (walks_rng _ _)⟩
      · exact q2.elim
    · cases h
  | .rngd a b, c, cl, X, ok, tg, x, h => by
    unfold chkIt at h
    split at h
    · rename_i r p y z k kk p1 p2 pos
      obtain ⟨h1234, h5, h6⟩ := and3 h
      obtain ⟨h12, h3, h4⟩ := and3 h1234
      obtain ⟨h1, h2⟩ := and2 h12
      obtain ⟨ex, g1, g2, g3, g4⟩ := bltn_of ok h1
      have e := of_decide_eq_true h2
      subst ex e
      have A := (sndE hF a ok _ h3).v
      have B := (sndE hF b ok _ h5).v
      have sn : starred (.UnaryOp .USub (.Constant (.int 1) kk p1) p2) = false := rfl
      refine PI.mono (pi_range3 g1 g2 (pa_cons A (pa_cons B (pa_cons (pe_un un_neg pe_int) pa_nil (star_not sn)) (star_not (not_t h6))) (star_not (not_t h4))) (star_not (not_t h4)) (star_any fun w hw => ?_)) fun σ H R q => ?_
      · rcases List.mem_cons.mp hw with rfl | hw
        · exact not_t h6
        · rw [List.mem_singleton.mp hw]; rfl
      · obtain ⟨m, ρ, S, RR, re, q⟩ := q
        refine le_step hF a RR re q fun d S1 m1 H1 v q le R1 rd re1 => le_step hF b R1 re1 q fun d2 S2 m2 H2 v2 q2 le2 R2 rd2 re2 => ?_
        refine ⟨1, rfl, ?_⟩
        split at q2
        · cases rd
          cases rd2
          obtain ⟨q1, q2, q3, q4, q5⟩ := q2
          exact ⟨_, _, -1, _, rfl, RgC.neg (by omega) (by omega) (by omega) (by omega), q5 m2 H2 _ (le.trans le2) R2 (walks_rngd _ _)⟩
        · exact q2.elim
    · cases h
  | .rng2 a b, c, cl, X, ok, tg, x, h => by
    unfold chkIt at h
    split at h
    · rename_i r p y z k kk p1 pos
      obtain ⟨h1234, h5, h6⟩ := and3 h
      obtain ⟨h12, h3, h4⟩ := and3 h1234
      obtain ⟨h1, h2⟩ := and2 h12
      obtain ⟨ex, g1, g2, g3, g4⟩ := bltn_of ok h1
      have e := of_decide_eq_true h2
      subst ex e
      have A := (sndE hF a ok _ h3).v
      have B := (sndE hF b ok _ h5).v
      have sn : starred (.Constant (.int 2) kk p1) = false := rfl
      refine PI.mono (pi_range3 g1 g2 (pa_cons A (pa_cons B (pa_cons pe_int pa_nil (star_not sn)) (star_not (not_t h6))) (star_not (not_t h4))) (star_not (not_t h4)) (star_any fun w hw => ?_)) fun σ H R q => ?_
      · rcases List.mem_cons.mp hw with rfl | hw
        · exact not_t h6
        · rw [List.mem_singleton.mp hw]; rfl
      · obtain ⟨m, ρ, S, RR, re, q⟩ := q
        refine le_step hF a RR re q fun d S1 m1 H1 v q le R1 rd re1 => le_step hF b R1 re1 q fun d2 S2 m2 H2 v2 q2 le2 R2 rd2 re2 => ?_
        split at q2
        · cases rd
          cases rd2
          obtain ⟨q1, q2, q3, q4, q5⟩ := q2
          exact ⟨_, _, 2, _, rfl, rg2 (by omega) (by omega) (by omega) (by omega), q5 m2 H2 _ (le.trans le2) R2 (walks_rng2 _ _)⟩
        · exact q2.elim
    · cases h
  | .enum e, c, cl, X, ok, tg, x, h => by
    unfold chkIt at h
    split at h
    · obtain ⟨h123, h4⟩ := and2 h
      obtain ⟨h1, h2, h3⟩ := and3 h123
      obtain ⟨ex, g1, g2, g3, g4⟩ := bltn_of ok h1
      subst ex
      have A := (sndE hF e ok _ h3).v
      cases tg with
      | Tuple elts kk tpos =>
        refine PI.mono (pi_enums g1 g2 (pa_cons A pa_nil (star_not (not_t h4))) (star_not (not_t h4))) fun σ H R q => ?_
        obtain ⟨m, ρ, S, RR, re, q⟩ := q
        refine le_step hF e RR re q fun d S1 m1 H1 v q le R1 rd re1 => ?_
        have key : ∀ {l : List D} {G : Store → Prop}, ((d = .tup l ∧ G = fun _ => True) ∨ (d = .fl l ∧ G = fun _ => True) ∨ ∃ n, d = .ref n ∧ lst? S1 n = some l ∧ G = fun S => lst? S n = some l) →
            (∀ m' H' J, Le m H m' H' → RS X.K cl m' H' S1 → Walks X.K cl m' H' J (enumL l) G → R J H') → ∀ {a : Addr}, v = .ref a → ∃ a, [v] = [.ref a] ∧ (((∃ xs, SqL X.K H1 a xs) ∧ R (Ite X.K a) H1) ∨ ((∃ xs, SqT X.K H1 a xs) ∧ R (Iet X.K a) H1)) := by
          intro l G hd k a ev
          subst ev
          refine ⟨a, rfl, ?_⟩
          rcases walks_enum R1 rd hd with ⟨h1, h2⟩ | ⟨h1, h2⟩
          · exact .inl ⟨h1, k _ _ _ le R1 h2⟩
          · exact .inr ⟨h1, k _ _ _ le R1 h2⟩
        unfold itSeq at q
        split at q
        · cases rd with
          | tup ht qt => exact key (.inl ⟨rfl, rfl⟩) q rfl
        · cases rd with
          | fl ht qt => exact key (.inr (.inl ⟨rfl, rfl⟩)) q rfl
        · split at q
          · rename_i l e
            cases rd with
            | ref hm => exact key (.inr (.inr ⟨_, rfl, e, rfl⟩)) q rfl
          · exact q.elim
        · exact q.elim
      | _ => cases h2
    · cases h
  | .vals e, c, cl, X, ok, tg, x, h => by
    unfold chkIt at h
    split at h
    · rename_i y n apos cpos
      obtain ⟨h12, h3, h4⟩ := and3 h
      obtain ⟨h1, h2⟩ := and2 h12
      have en := of_decide_eq_true h1
      subst en
      refine PI.mono (pi_values (sndE hF e ok _ h2).v (base_not (by simpa using h3)) h4) fun σ H R q => ?_
      obtain ⟨m, ρ, S, RR, re, q⟩ := q
      refine le_step hF e RR re q fun d S1 m1 H1 v q le R1 rd re1 => ?_
      split at q
      · rename_i n
        split at q
        · rename_i kvs g
          cases rd with
          | ref hm =>
            obtain ⟨o, l, h1, qk⟩ := R1.at_ _ _ _ hm g
            exact ⟨_, o, l, rfl, h1, q m1 _ _ le R1 (walks_vals hm h1 qk)⟩
        · exact q.elim
      · exact q.elim
    · cases h
  | .chars e, c, cl, X, ok, tg, x, h => by
    refine PI.mono (pi_str (sndE hF e ok _ h).v) fun σ H R q => ?_
    obtain ⟨m, ρ, S, RR, re, q⟩ := q
    refine le_step hF e RR re q fun d S1 m1 H1 v q le R1 rd re1 => ?_
    split at q
    · rename_i z
      cases rd
      exact ⟨z, rfl, q m1 _ _ le R1 walks_chars⟩
    · exact q.elim
  | .keys e, c, cl, X, ok, tg, x, h => by
    refine PI.mono (pi_keysF (sndE hF e ok _ h).v) fun σ H R q => ?_
    obtain ⟨m, ρ, S, RR, re, q⟩ := q
    refine le_step hF e RR re q fun d S1 m1 H1 v q le R1 rd re1 => ?_
    split at q
    · rename_i n
      split at q
      · rename_i kvs g
        cases rd with
        | ref hm =>
          obtain ⟨l, h1, qk⟩ := R1.at_ _ _ _ hm g
          refine ⟨_, l, rfl, .inl ⟨h1, fun o => ?_⟩⟩
          have l2 : Le m1 H1 m1 (upd H1 _ (.frz o (.dK l))) := le_set h1 trivial
          exact q m1 _ _ (le.trans l2) (R1.set hm h1 trivial ⟨o, l, upd_same, qk.mono l2⟩) (walks_keys hm upd_same (qk.mono l2))
      · rename_i kvs g
        cases rd with
        | ref hm =>
          obtain ⟨o, l, h1, qk⟩ := R1.at_ _ _ _ hm g
          exact ⟨_, l, rfl, .inr ⟨o, h1, q m1 _ _ le R1 (walks_keys hm h1 qk)⟩⟩
      · exact q.elim
    · exact q.elim
end
end
end Mn
namespace Mn
open PySem PySem.Spec PyProof.Rows L2
theorem walks_tail {prog : Program} {w : World} {A : Around} (hh : A.handled = none) (I ax : Addr) (hne : ax ≠ I) (items : Array Value) (k : Nat) (hk : k ≤ items.size) :
    PySem.Walks prog w A I [I, ax] [I] (items.size - k) (fun i v => items[i + k]? = some v) (fun i h => h.IsTupleIter I ax (i + k) ∧ h.IsTuple ax items) where
  sub := fun b hb => by simp at hb; simp [hb]
  frame := fun _ _ _ st hk => ⟨st.1.at fun o e => hk I (by simp) o e, st.2.at fun o e => hk ax (by simp) o e⟩
  item := fun i s Q E hi st hQ => by
    have h1 : i + k < items.size := by omega
    refine wpAny_pyNext_tuple_item st.1 st.2 (x := items[i + k]) (by simp [h1]) fun h' hit' hs' => ?_
    refine hQ _ h' s.toks (by simp [h1]) ⟨?_, st.2.extBut hs'.extBut hne⟩ fun b o hb e => hs'.extBut b o (fun h => hb (by simp [h])) e
    rw [show i + 1 + k = i + k + 1 by omega]
    exact hit'
  done := fun s Q E st hQ => wpAny_pyNext_tuple_end hh st.1 st.2 (by rw [Array.getElem?_eq_none]; omega) fun h' he' => hQ h' s.toks fun b o hb e => he' b o (fun h => hb (by simp [h])) e
  self := fun _ _ _ _ st hQ => wpAny_pyIter_tupleiter st.1 hQ
section
variable {X : Cx}
def gStar (K : Fg) (i j : Nat) : TG := fun v σ H Q => ∃ a w ws, v = .ref a ∧ SqT K H a (w :: ws) ∧ ∀ p, H p = none → Q ((σ.set i (some w)).set j (some (.ref p))) (upd H p (.lst ws))
theorem pg_star {i j : Nat} {x y : Str} {px py sp pos : Pos} {kk : Nat} (hc : X.calm = true) (hN : X.N.Nodup) (hi : X.N[i]? = some x) (hj : X.N[j]? = some y) (hx : Loc X.env.scope x) (hy : Loc X.env.scope y) (fx : X.fn x = true ∨ X.env.scope.names.lookup x = some .local) (fy : X.fn y = true ∨ X.env.scope.names.lookup y = some .local) :
    PG X (.Tuple [.Name x px, .Starred (.Name y py) sp] kk pos) (gStar X.K i j) := by
  refine ⟨fun pins s σ H v u Q I r hw => ?_⟩
  obtain ⟨a, w, ws, e1, hq, hw⟩ := hw
  subst e1
  cases r
  obtain ⟨its, rv, ht, hz⟩ := I.tuple hq
  cases rv with
  | @cons _ u0 _ us rw0 rws =>
    have hp : s.heap.IsTuple a (u0 :: us).toArray := ht
    have hne : a ≠ s.heap.objs.size := by
      obtain ⟨o, ho, _⟩ := hp
      exact Nat.ne_of_lt (Heap.lt_size ho)
    have hus : us.length ≤ sizeLine := by
      have h1 : (w :: ws).length ≤ sizeLine := hz
      have h2 := rws.length
      rw [List.length_cons] at h1
      omega
    rw [assign_Tuple]
    refine wpAny_bind (wpAny_standAt ?_)
    show wpAny _ _ (unpack (.ref a) [(false, assign (.Name x px) X.env), (true, assign (.Name y py) X.env)]) _ _ _
    unfold unpack
    refine wpAny_bind (wpAny_holding ?_)
    show wpAny _ _ (unpackItems (.ref a) 2 (some 1)) _ _ _
    unfold unpackItems
    refine wpAny_bind ?_
    unfold notIterableAtAll
    refine wpAny_bind (wpAny_specialOf ht.typeIs PySem.F.slot_tuple_iter.lookup ?_)
    refine wpAny_pure ?_
    simp only [Bool.false_eq_true, if_false]
    refine wpAny_bind (wpAny_holding (wpAny_pyIter_tuple hp ?_))
    have hp1 : (s.heap.push { cls := .type "tuple_iterator", data := .fields #[.ref a, .int 0 0] }).IsTuple a (u0 :: us).toArray := hp.at fun o e => Heap.get?_push_of_some _ e
    refine wpAny_bind (wpAny_holding (wpAny_draw_tuple hne 1 0 _ _ ⟨_, Heap.get?_push_size _ rfl, rfl, rfl⟩ hp1 (by simp) fun h1 hit1 hs1 => ?_))
    have efirst : List.take 1 (List.drop 0 (u0 :: us).toArray.toList) = [u0] := by simp
    rw [efirst, if_neg (by simp)]
    have hp2 : h1.IsTuple a (u0 :: us).toArray := hp1.extBut hs1.extBut hne
    have hlt : ∀ b ∈ [s.heap.objs.size, a], b < h1.objs.size := fun b hb => by
      have e : b = s.heap.objs.size ∨ b = a := by simpa using hb
      rcases e with e | e
      · rw [e]
        obtain ⟨o, ho, _⟩ := hit1
        exact Heap.lt_size ho
      · rw [e]
        obtain ⟨o, ho, _⟩ := hp2
        exact Heap.lt_size ho
    refine wpAny_bind (wpAny_holding (wpAny_collect_iter (T := "tuple_iterator") (s := { s with heap := h1 }) (.inr (.inr (.inr rfl))) (Walks.toS (walks_tail (A := X.A.in1) (I.ok.hd hc) s.heap.objs.size a hne (u0 :: us).toArray 1 (by simp))) (fun i s st => st.1.typeIs) ⟨hit1, hp2⟩ hlt (by simp) (fun s' acc mv it => ?_) ?_))
    · have eacc : acc.toList = us := by
        refine List.ext_getElem? fun k => ?_
        have hs : acc.size = us.length := by simpa using it.1
        by_cases hk : k < us.length
        · have h2 : acc[k]? = some acc[k] := by simp [hs, hk]
          have h3 := it.2 k _ h2
          have h4 : us[k]? = some acc[k] := by simpa using h3
          rw [h4]
          simpa using h2
        · rw [List.getElem?_eq_none (by simp [hs]; omega), List.getElem?_eq_none (by omega)]
      rw [eacc]
      have e0 : ¬ us.length < 2 - 1 - 1 := by omega
      rw [if_neg e0]
      have e3 : us.length - (2 - 1 - 1) = us.length := by omega
      rw [e3, List.take_length, List.drop_length]
      have hk1 : ∀ b o, s.heap.get? b = some o → s'.heap.get? b = some o := fun b o e => by
        have hb : b ≠ s.heap.objs.size := Nat.ne_of_lt (Heap.lt_size e)
        refine mv.heap b o (by simpa using hb) ?_
        exact hs1.extBut b o hb (Heap.get?_push_of_some _ e)
      obtain ⟨hh, g, d, t, os⟩ := s'
      obtain rfl : g = s.gens := mv.gens
      obtain rfl : d = s.drawn := mv.drawn
      obtain rfl : os = s.os := mv.os
      have I1 : Inv X pins σ H { s with heap := hh, toks := t } := I.kept hk1
      refine wpAny_bind (wpAny_newObj_type ?_ ?_)
      · have hn : H hh.objs.size = none := I1.hok.fresh (Nat.le_refl _)
        have hlw : ws.length ≤ sizeLine := by
          have : (w :: ws).length ≤ sizeLine := hz
          simp at this
          omega
        have I2 : Inv X pins σ (upd H hh.objs.size (.lst ws)) { s with heap := hh.push { cls := .type "list", data := .seq us.toArray }, toks := t } := I1.laid (t' := t) (fun b o e => Heap.get?_push_of_some _ e) (Nat.le_refl _) ⟨hlw, us, 0, rws, Heap.get?_push_size _ rfl⟩
        refine wpAny_pure ?_
        show wpAny _ _ (assignInOrder [assign (.Name x px) X.env, assign (.Name y py) X.env] [u0, .ref hh.objs.size]) _ _ _
        refine assignInOrder_cons (wpAny_assign_Name (store_ok I2 hN hi hx rw0 (fun s2 I4 => ?_) fx))
        refine assignInOrder_cons (wpAny_assign_Name (store_ok (v := V.ref hh.objs.size) I4 hN hj hy rfl (fun s3 I5 => assignInOrder_nil ⟨_, _, I5, hw _ hn⟩) fy))
      · first | exact hus | simpa using hus | (show us.length ≤ sizeLine; exact hus)
    · first | exact hus | simpa using hus
end
end Mn
namespace Mn
open PySem PySem.Spec PyProof.Rows L2
def LO (f : Addr) (o : Obj) : HO := .frz o (.ext fun h => h.get? f = some o)
theorem lo_ok {P : Program} {w : World} {H : Hp} {h : Heap} {f : Addr} {o : Obj} (e : h.get? f = some o) : ObjOk P w H h f (LO f o) := ⟨e, e, ⟨o, e⟩, fun _ _ q k => k o q⟩
abbrev qL (X : Cx) : Str := X.env.qual ++ "<lambda>"
abbrev cloO (X : Cx) (params : Arguments) (body : Expr) (scope : Scope) (pm : Value) (c' : Addr) (ctv : Value) : Obj := PySem.W.kla_obj "<lambda>" (qL X) params body scope (cloFrom X.env.cells scope.names []) pm c' ctv
def tLamO (X : Cx) (T : List (Addr × Str)) (params : Arguments) (body : Expr) (scope : Scope) : TE := fun σ H Q => LamX.Tabs T H ∧ ∀ (H1 : Hp) (f c' : Addr) (pm ctv : Value), LamX.ExtN H H1 → LamX.Tabs T H1 → H1 f = none → H1 c' = some (LamX.CodeO c' (qL X)) → Q (.ref f) (upd H1 f (LO f (cloO X params body scope pm c' ctv)))
theorem tabs_more {T : List (Addr × Str)} {H : Hp} {P cN : Addr} {q : Str} {ps : Array Value} {l : Pos} (ht : LamX.Tabs T H) (hu : ∀ p ∈ T, p.1 = P → p.2 = q) (hP : H P = some (.tbl ps)) (tr : TriplesOk ps.toList) (n : H cN = none)
    (am : ∀ (pos : Pos) (cv : Value), codeAmong pos ps.toList = some cv → ∃ c, cv = .ref c ∧ H c = some (LamX.CodeO c q)) :
    LamX.ExtN H (upd (upd H P (.tbl (ps ++ #[rawInt l.line, rawInt l.col, .ref cN]))) cN (LamX.CodeO cN q)) ∧ LamX.Tabs T (upd (upd H P (.tbl (ps ++ #[rawInt l.line, rawInt l.col, .ref cN]))) cN (LamX.CodeO cN q)) := by
  have st : LamX.ExtN H (upd (upd H P (.tbl (ps ++ #[rawInt l.line, rawInt l.col, .ref cN]))) cN (LamX.CodeO cN q)) := by
    intro b o hb no
    have n1 : b ≠ cN := ne_of_none hb n
    have n2 : b ≠ P := by
      rintro rfl
      rw [hP] at hb
      exact no ps (Option.some.inj hb).symm
    rw [upd_ne n1, upd_ne n2, hb]
  have lst : (ps ++ #[rawInt l.line, rawInt l.col, Value.ref cN]).toList = ps.toList ++ [rawInt l.line, rawInt l.col, Value.ref cN] := by simp
  refine ⟨st, fun p hp => ?_⟩
  by_cases same : p.1 = P
  · have e2 := hu p hp same
    rw [same, e2]
    have at0 : (upd (upd H P (.tbl (ps ++ #[rawInt l.line, rawInt l.col, .ref cN]))) cN (LamX.CodeO cN q)) P = some (.tbl (ps ++ #[rawInt l.line, rawInt l.col, .ref cN])) := by rw [upd_ne (ne_of_none hP n), upd_same]
    refine ⟨_, at0, ?_, ?_⟩
    · rw [lst]
      exact PySem.TriplesOk_snoc _ _ _ _ tr
    · intro pos cv hcv
      rw [lst] at hcv
      rcases LamX.among_app ps.toList tr hcv with old | new
      · obtain ⟨c, rfl, hc⟩ := am pos cv old
        exact ⟨c, rfl, st c _ hc LamX.codeO_ne⟩
      · exact ⟨cN, new, upd_same⟩
  · obtain ⟨qs, b1, b2, b3⟩ := ht p hp
    have keepT : (upd (upd H P (.tbl (ps ++ #[rawInt l.line, rawInt l.col, .ref cN]))) cN (LamX.CodeO cN q)) p.1 = some (.tbl qs) := by rw [upd_ne (ne_of_none b1 n), upd_ne same, b1]
    refine ⟨qs, keepT, b2, fun pos cv hcv => ?_⟩
    obtain ⟨c, rfl, hc⟩ := b3 pos cv hcv
    exact ⟨c, rfl, st c _ hc LamX.codeO_ne⟩
section
variable {X : Cx}
theorem pe_lamv {T : List (Addr × Str)} {c P : Addr} {params : Arguments} {body : Expr} {scope : Scope} {pos : Pos} (TB : LamX.TabB X.base X.mg c P) (hcode : X.env.code = .ref c) (hm : (P, qL X) ∈ T) (hu : ∀ p ∈ T, p.1 = P → p.2 = qL X)
    (hdef : defaultsOf params X.env = ([], [])) (L : LamX.LamS X.env.scope scope) : PE X (.Lambda params body scope pos) (tLamO X T params body scope) := by
  refine ⟨fun pins s σ H Q I ⟨hT, q⟩ => ?_⟩
  obtain ⟨ps, hP, tr, am⟩ := hT _ hm
  have gP : s.heap.get? P = some { cls := .none, data := .fields ps } := I.hok P _ hP
  have bP : s.heap.BuiltinsAt X.mg P := TB.bm.keeps I.bk
  have lay : ∀ (H1 : Hp) (h1 : Heap) (tk : Nat) (c' : Addr) (ctv : Value), Inv X pins σ H1 { s with heap := h1, toks := tk } → LamX.ExtN H H1 → LamX.Tabs T H1 → H1 c' = some (LamX.CodeO c' (qL X)) →
      EP X pins σ Q (.ref h1.objs.size) { s with heap := h1.push (cloO X params body scope ((X.mg "__name__").getD .none) c' ctv), toks := tk } := fun H1 h1 tk c' ctv I1 e1 T1 hc => by
    have n : H1 h1.objs.size = none := I1.hok.fresh (Nat.le_refl _)
    have J := I1.laid (t' := tk) (a := h1.objs.size) (o := LO h1.objs.size (cloO X params body scope ((X.mg "__name__").getD .none) c' ctv)) (h' := h1.push (cloO X params body scope ((X.mg "__name__").getD .none) c' ctv))
      (fun b u e => Heap.get?_push_of_some _ e) (Nat.le_refl _) (lo_ok (Heap.get?_push_size _ rfl))
    exact ⟨.ref h1.objs.size, _, J, rfl, q H1 _ c' _ ctv e1 T1 n hc⟩
  refine PySem.W.kla_eval hdef ?_
  cases hc : codeAmong pos ps.toList with
  | some cv =>
    obtain ⟨c', rfl, hco⟩ := am pos cv hc
    refine PySem.W.kla_makeFunctionHit (mg := X.mg) (c := c) (P := P) (ps := ps) (closure_ok (L.has I.ok)) I.ok.glob (I.mod.glob.keeps I.bk) hcode (TB.code.keeps I.bk) gP tr hc bP fun ctv h' tk hx hsz => ?_
    exact lay H h' tk c' ctv (I.kept hx) (LamX.ExtN.refl H) hT hco
  | none =>
    refine PySem.W.kla_makeFunction (mg := X.mg) (c := c) (P := P) (ps := ps) (closure_ok (L.has I.ok)) I.ok.glob (I.mod.glob.keeps I.bk) hcode (TB.code.keeps I.bk) gP tr hc TB.gP bP fun c' ctv h' tk hx hge hlt hrec htb => ?_
    obtain ⟨c2, oc, vs, t, e2, hoc, hd, hv⟩ := hrec
    cases e2
    have I1 := LamX.inv_table (t' := tk) (more := #[rawInt pos.line, rawInt pos.col, .ref c']) (h' := h') I hP (fun b o hb e => hx b o hb e) htb hge ⟨oc, vs, t, hoc, hd, hv⟩
    obtain ⟨k1, k2⟩ := tabs_more (l := pos) hT hu hP tr (I.hok.fresh hge) am
    exact lay _ h' tk c' ctv I1 k1 k2 upd_same
theorem door_act {pins : List (Addr × Obj)} {σ : L2.St} {H : Hp} {s : Shared} {CXg : CXT} {Eg : L2.XK} {Ng : List Str} {qg : Str} {sg : Scope} {g f c' : Addr} {cdg pm ctv : Value} {params : Arguments} {body : Expr} {scope : Scope} {k i : Nat} {a : Str} {pn : List (Addr × Obj)} {xe : Value → Shared → Prop} {W : WX} {E : L2.XK} {tb : TE} {p1 p2 : Pos}
    (I : Inv X pins σ H s) (L : LamX.LamS X.env.scope scope) (hF : H f = some (LO f (cloO X params body scope pm c' ctv)))
    (hbind : bindArgs (PySem.W.kla_fn "<lambda>" (qL X) params body scope (cloFrom X.env.cells scope.names []) pm (.ref c') ctv) ⟨[], []⟩ = pure [])
    (tk : Takes ((cxOf CXg X.prog X.w X.K X.mg X.base Ng qg sg g cdg X.A X.stack s H Eg).tr pn xe) W) (hW : ∀ cls d σ' H', E cls d H' → W cls d σ' H') (hr : Room (k + 1) (X.A.deeper (envOfC qg sg s.heap.objs.size g cdg)))
    (hbody : ∀ (A : Around) (outer : List PySem.Env) (s : Shared) (H : Hp), Room k (A.deeper (LamX.lamEnv X scope s.heap.objs.size f c')) → PE (LamX.lamCx X A outer s H E scope f c') body tb)
    (hN : Ng[i]? = some a) (hv : Vis sg a) (hd : (a == ("__debug__" : Str)) = false := by decide) (hcd : (a == ("__classdict__" : Str)) = false := by decide) :
    PE ((cxOf CXg X.prog X.w X.K X.mg X.base Ng qg sg g cdg X.A X.stack s H Eg).tr pn xe) (.Call (.Name a p1) [] [] p2)
      (fun σZ HZ Q => σZ[i]? = some (some (.ref f)) ∧ HZ c' = some (LamX.CodeO c' (qL X)) ∧ tb σ HZ Q) := by
  refine ⟨fun pinsZ sZ σZ HZ Q IZ ⟨hs, hc, ht⟩ => ?_⟩
  refine wpAny_Call_Name_kw (thn ((pe_var (pos := p1) (i := i) hN hv hd hcd).run pinsZ sZ σZ HZ (fun v H1 => v = .ref f ∧ H1 = HZ) IZ ⟨_, hs, rfl, rfl⟩) ?_)
  rintro u s1 ⟨v1, H1, I1, r1, ev, eH⟩
  rw [eH] at I1
  subst ev
  cases r1
  have un1 := (show Un (frs X.stack) [] H HZ s.heap s1.heap from I1.base)
  have of1 := (I1.hok f _ (un1.frzs f _ _ hF)).1
  refine PySem.W.callWith_F0 ⟨_, _, _, _, of1⟩ ?_
  obtain ⟨⟨oc, vs, t, c1, c2, c3⟩, _, _⟩ := I1.hok c' _ hc
  have pas : Passes (L2.CX X.prog X.w) ((cxOf CXg X.prog X.w X.K X.mg X.base Ng qg sg g cdg X.A X.stack s H Eg).tr pn xe) E := passes_call tk hW
  have run : codeAny (model X.prog X.w) (X.A.deeper (envOfC qg sg s.heap.objs.size g cdg)) (.call (.ref f) ⟨[], []⟩) (CR (L2.CX X.prog X.w) (envOfC qg sg s.heap.objs.size g cdg :: X.stack) X.prog X.w HZ s1 Q E) s1 := by
    refine PySem.W.kla_callFunE hr.depth of1 rfl L.co L.gen rfl ⟨c', oc, vs, t, rfl, c1, c2, c3⟩ ?_
    rw [hbind]
    refine wpAny_pure (wpAny_newFunctionEnv (fun y hy => (L.own y hy).2) (fun y hy => absurd hy (by simp)) (fun h₁ hns hsb => ⟨I1.nolimit.fresh _ hsb, ?_⟩) L.kind)
    have J := LamX.lam_start2 (tk := s1.toks + ([] : List (Str × Value)).length) (E := E) (f := f) (c' := c') I L I1.env0 hr.hd un1 hns (fun b o e => hsb.extBut b o (Nat.ne_of_lt (Heap.lt_size e)) (Heap.get?_push_of_some _ e))
    refine PySem.W.kla_codeExpr (wpAny_mono ((hbody _ _ s1 HZ (hr.deeper _)).run [] _ _ HZ Q J ht) ?_ fun e s' z => z)
    rintro v s' ⟨w', H', J', rv, q⟩
    exact ⟨w', H', J'.os, J'.bare, J'.base, J'.hok, rv, q⟩
  refine wpAny_call (codeAny_mono run fun r s' hq => ?_)
  rcases r with e | fl
  · exact pas pinsZ _ _ s1 e s' I1 hq
  · cases fl with
    | ret u => exact I1.after hq
    | next => exact hq.elim
    | brk => exact hq.elim
    | cont => exact hq.elim
abbrev noPar : Arguments := ⟨[], [], none, [], [], none, []⟩
def tDoor (X : Cx) (i : Nat) (TT : (L2.XK → Hp → VK → Prop) → Hp → VK → Prop) (ls : List (Expr × Scope × (L2.XK → TE))) : TE := fun σ H Q => ∃ l ∈ ls, ∃ (f c' : Addr) (pm ctv : Value), σ[i]? = some (some (.ref f)) ∧ H f = some (LO f (cloO X noPar l.1 l.2.1 pm c' ctv)) ∧ H c' = some (LamX.CodeO c' (qL X)) ∧ TT (fun E H' Q' => l.2.2 E σ H' Q') H Q
theorem pe_door {TT : (L2.XK → Hp → VK → Prop) → Hp → VK → Prop} {x a y : Str} {g : Addr} {k i : Nat} {pg : Arguments} {bg : List Stmt} {sg : Scope} {dV kV doc pm cdv ct oc : Value} {an od : Option Addr} {osl : Array (Option Value)} {Ng : List Str} {ls : List (Expr × Scope × (L2.XK → TE))} {p q pos : Pos}
    (hg : Gl X x) (hm : X.mg x = some (.ref g)) (hk : PySem.W.keepIn X.K (.ref g) = true) (lk : X.K.lookup g = some ⟨oc, od, .func (PySem.W.fnOf x x pg bg sg dV kV doc pm an cdv ct), osl⟩) (hcg : PySem.W.codeIn X.K cdv x = true)
    (hb : L2.Binds X.K (PySem.W.fnOf x x pg bg sg dV kV doc pm an cdv ct) [a] []) (Sg : FnScope Ng [a] sg) (hNg : Ng[0]? = some a) (hva : Vis sg a) (hG : LamX.GivesTo X Ng x sg g cdv bg a (qL X) TT) (hr : Room (k + 2) X.A)
    (hl : ∀ l ∈ ls, LamX.LamS X.env.scope l.2.1 ∧ ∀ (A : Around) (outer : List PySem.Env) (s : Shared) (H : Hp) (E : L2.XK) (f c' : Addr), Room k (A.deeper (LamX.lamEnv X l.2.1 s.heap.objs.size f c')) → PE (LamX.lamCx X A outer s H E l.2.1 f c') l.1 (l.2.2 E))
    (hy : X.N[i]? = some y) (hvy : Vis X.env.scope y) (y1 : (y == ("__debug__" : Str)) = false) (y2 : (y == ("__classdict__" : Str)) = false) (hdb : (x == ("__debug__" : Str)) = false) (hd : (a == ("__debug__" : Str)) = false) (hcd : (a == ("__classdict__" : Str)) = false) :
    PE X (.Call (.Name x p) [.Name y q] [] pos) (tDoor X i TT ls) := by
  refine ⟨fun pins s σ H Q I h => ?_⟩
  obtain ⟨l, hl0, f, c', pm', ctv, e1, e2, e3, h⟩ := h
  obtain ⟨L, body⟩ := hl l hl0
  have kin := I.ok.mod.kin
  refine wpAny_Call_Name_kw (ld_glob I hg hm (PySem.W.callWith_K (h₀ := X.base) kin hk ?_ (by rfl) (by rfl)) hdb)
  refine (show wpAny (model X.prog X.w) X.A (spliced ((false, eval (.Name y q) X.env) :: backTo pos (starEach [] X.env))) _ _ s from ?_)
  refine Calls.spliced_cons (thn ((pe_var (pos := q) (i := i) hy hvy y1 y2).run pins s σ H (fun v H1 => v = .ref f ∧ H1 = H) I ⟨_, e1, rfl, rfl⟩) ?_)
  rintro u s1 ⟨v1, H1, I1, r1, ev, eH⟩
  rw [eH] at I1
  subst ev
  cases r1
  refine Calls.spliced_nil ⟨I1.kIn, ?_⟩
  have run : codeAny (model X.prog X.w) X.A (.call (.ref g) ⟨[.ref f], []⟩) (CR C8.CX0 X.stack X.prog X.w H s1 Q C8.E0) s1 :=
    LamX.run_ofS (N := Ng) (ps := [a]) (us := [.ref f]) (vs := [.ref f]) lk hcg Sg hr I1.env0 (hb s1 [.ref f] I1.kIn rfl) (.cons rfl .nil) rfl fun hr' => by
      obtain ⟨t', w1, w2⟩ := hG f c' s1 H Q (fun E H' Q' => l.2.2 E σ H' Q') (fun W pn xe E p1 p2 tk hW => door_act (i := 0) I1 L e2 rfl tk hW hr' (fun A outer s H hr2 => body A outer s H E f c' hr2) hNg hva hd hcd) e3 h
      exact ⟨t', w1.nox, w2⟩
  refine wpAny_call (codeAny_mono run fun r s2 hq => ?_)
  rcases r with e | fl
  · exact (show False from hq).elim
  · cases fl with
    | ret u => exact I1.after hq
    | next => exact hq.elim
    | brk => exact hq.elim
    | cont => exact hq.elim
theorem pe_lockL {e : Expr} {te : TE} (he : PE X e te) : PE X e (fun σ H Q => te σ H fun x H1 => ∃ a xs, x = .ref a ∧ H1 a = some (.lst xs) ∧ ∀ o, Q (.ref a) (upd H1 a (.frz o (.lst xs)))) := by
  refine ⟨fun pins s σ H Q I h => ?_⟩
  refine thn (he.run pins s σ H _ I h) fun u s1 ⟨x, H1, I1, rx, a, xs, ex, ha, q⟩ => ?_
  obtain ⟨o, I2⟩ := I1.lock ha trivial
  subst ex
  exact ⟨.ref a, _, I2, rx, q o⟩
end
section
variable {c : Cxt} {cl : Cl} {F : Sem} {X : Cx}
theorem lam_body (hF : SemMono F) (ok : XOk c cl F X) {scope : Scope} {e : E} {body : Expr} {k : Nat} (h7 : chkE e (inLam c scope) body = true) (k40 : 40 ≤ k)
    (low : ∀ (A : Around) (outer : List PySem.Env) (s : Shared) (H : Hp) (E : L2.XK) (scope : Scope) (f c' : Addr), Room k (A.deeper (LamX.lamEnv X scope s.heap.objs.size f c')) →
      (∀ p ∈ c.fns, FnAt cl.at_ F (LamX.lamCx X A outer s H E scope f c') p.x (p.f + 1000000) p.ar p.kw) ∧ ∀ j m f1 ar, (j, m, f1, ar) ∈ c.mts → MtAt cl.at_ F (LamX.lamCx X A outer s H E scope f c') j m (f1 + 1000000) ar) :
    ∀ (A : Around) (outer : List PySem.Env) (s : Shared) (H : Hp) (E : L2.XK) (f c' : Addr), Room k (A.deeper (LamX.lamEnv X scope s.heap.objs.size f c')) →
      PE (LamX.lamCx X A outer s H E scope f c') body (fun σ H1 Q => ∃ cl1 : Cl, cl1.at_ = cl.at_ ∧ cl1.E = E ∧ lE X.K cl1 F e σ H1 Q) := fun A outer s H E f c' hr => by
  refine ⟨fun pins s2 σ H2 Q I ⟨cl1, q1, q2, w⟩ => ?_⟩
  obtain ⟨lf, lm⟩ := low A outer s H E scope f c' hr
  have TK : Takes (LamX.lamCx X A outer s H E scope f c') (fun cls d _ H => E cls d H) := takes_of rfl rfl rfl rfl
  have ok1 : XOk (inLam c scope) cl1 F (LamX.lamCx X A outer s H E scope f c') := {
    N := ok.N
    nd := ok.nd
    sc := rfl
    calm := rfl
    units := by
      have := hr.un
      show (A.deeper _).units + 650 < cLine
      omega
    tg := fun z => nomatch z
    fns := fun p hp => by
      obtain ⟨p0, hp0, rfl⟩ := List.mem_map.mp hp
      rw [q1]
      exact lf p0 hp0
    flds := fun k f hk => by
      obtain ⟨C, z1, z2⟩ := ok.flds k f hk
      exact ⟨C, by rw [q1]; exact z1, z2⟩
    mts := fun j m f1 ar hp => by
      obtain ⟨⟨j0, m0, f0, a0⟩, hp0, ez⟩ := List.mem_map.mp hp
      cases ez
      rw [q1]
      exact lm _ _ _ _ hp0
    mks := fun _ _ _ _ hp => nomatch hp
    csts := ok.csts
    gds := ok.gds
    free := ok.free
    pas := by rw [q2]; exact passes_call TK fun _ _ _ _ z => z
    excs := fun _ _ hp => nomatch hp
    tld := fun _ _ z => nomatch z
    lamt := fun z => nomatch z
    mtk := fun _ hp => nomatch hp
    lens := fun _ _ hp => nomatch hp }
  exact (sndE hF e ok1 body h7).v.run pins s2 σ H2 Q I w
theorem told_go {m : List Addr} {H : Hp} {S : Store} {ρ : Env} {σ : L2.St} {P : DK} {Q : VK} {ws : List (Nat × Str)} (hF : SemMono F) (e : E) (R : RS X.K cl m H S) (re : RE X.K m H ρ σ) (w : wpE F (.told ws e) ρ S P (upX X.K cl))
    (k : ∀ d S' m' H' v, P d S' → Le m H m' H' → RS X.K cl m' H' S' → RD X.K m' H' d v → RE X.K m' H' ρ σ → Q v H') : TTel cl.at_ ws (fun E H' Q' => ∃ cl1 : Cl, cl1.at_ = cl.at_ ∧ cl1.E = E ∧ lE X.K cl1 F e σ H' Q') H Q := by
  replace w : wpE F e ρ S (fun x S1 => P (.tup [.str "told", x]) S1) (fun c S1 => match ws.lookup c with | some w => P (.str w) S1 | none => False) := w
  let cl1 : Cl := ⟨cl.at_, fun m' H' => cl.ok m' H' ∧ Le m H m' H', fun m1 H1' m2 H2' le2 z => ⟨cl.mono _ _ _ _ le2 z.1, z.2.trans le2⟩, fun cls d H' => ∃ k C w, cl.at_ k = some C ∧ cls = .ref C ∧ d = none ∧ ws.lookup k = some w ∧ ∀ H2, NewH H' H2 → Q (.str w) H2⟩
  have toC : ∀ {m' : List Addr} {H' : Hp} {S' : Store}, RS X.K cl1 m' H' S' → RS X.K cl m' H' S' := fun r => ⟨r.len, r.nd, r.at_, r.gr.1, r.tb⟩
  refine ⟨cl1, rfl, rfl, m, ρ, S, ⟨R.len, R.nd, R.at_, ⟨R.gr, Le.refl m H⟩, R.tb⟩, re, wpE_mono hF e (fun d S1 z => ?_) (fun c1 S1 z => ?_) w⟩
  · intro m' H' v le2 r rd p hp
    have l3 := le2.trans (le_new (m := m') (u := .tup [.str "told", v]) hp)
    exact k _ S1 m' _ (.ref p) z l3 ((toC r).new hp) (.tup (SqT.of upd_same) (.cons (.str _) (.cons (rd.mono (le_new hp)) .nil))) (re.mono l3)
  · intro m' H' C r hC
    cases hw : ws.lookup c1 with
    | none =>
      rw [hw] at z
      exact z.elim
    | some w1 =>
      rw [hw] at z
      refine ⟨c1, C, w1, hC, rfl, rfl, hw, fun H2 nw => ?_⟩
      have l3 := r.gr.2.trans (nw.le m')
      exact k _ S1 m' H2 (.str w1) z l3 ((toC r).newH nw) (.str w1) (re.mono l3)
theorem lam_go {m : List Addr} {H : Hp} {S : Store} {σ : L2.St} {body : Expr} {scope : Scope} {Q : VK} (R : RS X.K cl m H S)
    (k : ∀ (H1 : Hp) (f c' : Addr) (pm ctv : Value), Le m H m H1 → RS X.K cl m H1 S → (∀ b u, H b = some u → (∀ ps, u ≠ .tbl ps) → H1 b = some u) → H1 f = some (LO f (cloO X noPar body scope pm c' ctv)) → H1 c' = some (LamX.CodeO c' (qL X)) → Q (.ref f) H1) :
    tLamO X cl.at_.T noPar body scope σ H Q := by
  refine ⟨R.tb, fun H1 f c' pm ctv eN T1 nf hc => ?_⟩
  have st : ∀ b u, H b = some u → (∀ ps, u ≠ .tbl ps) → upd H1 f (LO f (cloO X noPar body scope pm c' ctv)) b = some u := fun b u hb hn => by
    have z := eN b u hb hn
    rw [upd_ne (ne_of_none z nf)]
    exact z
  have le : Le m H m H1 := ⟨fun _ _ z => z, fun a vs z => eN a _ z (fun ps q => by cases q), fun a o u z => eN a _ z (fun ps q => by cases q), fun a φ z => eN a _ z (fun ps q => by cases q)⟩
  have R1 : RS X.K cl m H1 S := ⟨R.len, R.nd, fun n a o e1 e2 => (R.at_ n a o e1 e2).keep le (fun u z => eN a u z fun ps q => by
    subst q
    exact RO.no_tbl (R.at_ n a o e1 e2) z), cl.mono _ _ _ _ le R.gr, T1⟩
  refine k _ f c' pm ctv (le.trans (le_new nf)) (R1.new nf) st upd_same ?_
  rw [upd_ne (ne_of_none hc nf)]
  exact hc
end
end Mn
namespace Mn
open PySem PySem.Spec PyProof.Rows L2
def isTupX : Expr → Option (List Expr)
  | .Tuple es _ _ => some es
  | _ => none
def noSwap (v : Expr) : Bool := match isTupX v with
  | some es => es.all (foldedForSure 8)
  | none => true
def cellTg (sc : Scope) (xs : List Expr) : Bool := xs.any fun x => match x with
  | .Name id _ => (match sc.names.lookup id with | some .local => false | _ => true)
  | _ => true
def usedB (sc scope : Scope) (y : Str) (py pos : Pos) : Bool :=
  (match sc.names.lookup y with | some .local => true | _ => false) && (py.line == pos.line) && !(scope.names.any fun (n, k) => n == y && (k == .local || k == .cell))
def fnB (sc : Scope) : Bool := match sc.kind with | .function => true | _ => false
def chkTms (c : Cxt) : List Tm → List Expr → Bool
  | [], xs => xs.isEmpty
  | .tg t :: ts, xs => (match xs with | x :: r => chkTg c t x && chkTms c ts r | [] => false)
  | .sub o i :: ts, xs => (match xs with | .Subscript x y _ :: r => chkE o c x && chkE i c y && !isSlice y && chkTms c ts r | _ => false)
  | .att k o f :: ts, xs => (match xs with | .Attribute y n _ :: r => decide (n = f) && chkE o c y && (c.flds.any fun p => decide (p.1 = k) && decide (p.2 = f)) && chkTms c ts r | _ => false)
def doorsB (c : Cxt) (dl dr t : Nat) (ws : List (Nat × Str)) (e1 e2 e3 : E) (x1 x2 x3 x4 y y2 tn fn n2 n3 : Str) (p1 p2 p3 : Arguments) (l1 l2 l3 : Expr) (sc1 sc2 sc3 : Scope) (b2 b3 : Bool) : Bool :=
  (decide (x2 = x1) && decide (x3 = x1) && decide (x4 = x1) && decide (y2 = y) && decide (n2 = "append") && decide (n3 = "append") && decide (c.N[dl]? = some x1) && decide (c.N[dr]? = some y) && decide (c.N[t]? = some tn))
      && (locB c.sc x1 && locB c.sc y && locB c.sc tn && okN x1 && okN y && fnB c.sc && okN fn && glB c.sc fn && b2 && b3)
      && ((match c.tld with | some q => decide (q.1 = fn) && decide (q.2 = ws) | none => false) && noArgs p1 && noArgs p2 && noArgs p3 && LamX.lamSB c.sc sc1 && LamX.lamSB c.sc sc2 && LamX.lamSB c.sc sc3)
      && (chkE e1 (inLam c sc1) l1 && chkE e2 (inLam c sc2) l2 && chkE e3 (inLam c sc3) l3)
def chkDoors (c : Cxt) (dl dr t : Nat) (ws : List (Nat × Str)) (e1 e2 e3 : E) : List Stmt → Option (List Stmt × List Stmt)
  | .Assign [.Name x1 _] (.List [.Lambda p1 l1 sc1 _] _) _ :: .Expr (.Call (.Attribute (.Name x2 _) n2 a2) [.Lambda p2 l2 sc2 _] [] q2) _ :: .Expr (.Call (.Attribute (.Name x3 _) n3 a3) [.Lambda p3 l3 sc3 _] [] q3) _ ::
      .For (.Name y _) (.Name x4 _) (.Assign [.Name tn _] (.Call (.Name fn _) [.Name y2 _] [] _) _ :: ys) [] _ :: ss =>
    if doorsB c dl dr t ws e1 e2 e3 x1 x2 x3 x4 y y2 tn fn n2 n3 p1 p2 p3 l1 l2 l3 sc1 sc2 sc3 (a2.endLine == q2.line) (a3.endLine == q3.line) = true then some (ys, ss) else none
  | _ => none
mutual
def chkC (c : Cxt) : C → Stmt → Bool
  | .bad, _ => true
  | .raise k, s => (match s with
    | .Raise (some (.Call (.Name x _) [.Constant (.str _) _ _] [] _)) none _ => glB c.sc x && okN x && c.excs.any fun p => decide (p.1 = x) && decide (p.2 = k)
    | _ => false)
  | .pass, s => (match s with | .Pass _ => true | _ => false)
  | .set i e, s => (match s with
    | .Assign [.Name x _] v _ => decide (c.N[i]? = some x) && locB c.sc x && fnB c.sc && chkE e c v
    | _ => false)
  | .asg t e, s => (match s with
    | .Assign [.Tuple xs k p] v _ => chkTg c t (.Tuple xs k p) && chkE e c v && !isComp v && (noSwap v || cellTg c.sc xs)
    | _ => false)
  | .asgm ts e, s => (match s with
    | .Assign [.Tuple xs k p] v _ => chkTms c ts xs && chkE e c v && !isComp v && noSwap v
    | _ => false)
  | .par i j a b, s => (match s with
    | .Assign [.Tuple [.Name x px, .Name y py] _ _] (.Tuple [u, w] _ _) _ => decide (c.N[i]? = some x) && decide (c.N[j]? = some y) && decide (i ≠ j) && decide (x ≠ y) && decide (c.sc.names.lookup x = some .local) && decide (c.sc.names.lookup y = some .local)
      && (px.line == py.line) && fnB c.sc && !starred u && !starred w && !(foldedForSure 8 u && foldedForSure 8 w) && !(constantsAlone 8 u && constantsAlone 8 w) && chkE a c u && chkE b c w
    | _ => false)
  | .star i j e, s => (match s with
    | .Assign [.Tuple [.Name x _, .Starred (.Name y _) _] _ _] v _ => decide (c.N[i]? = some x) && decide (c.N[j]? = some y) && locB c.sc x && locB c.sc y && chkE e c v && !isComp v && noSwap v
    | _ => false)
  | .unp i j e, s => (match s with
    | .Assign [.Tuple [.Name x _, .Name y _] _ _] v _ => decide (c.N[i]? = some x) && decide (c.N[j]? = some y) && locB c.sc x && locB c.sc y && chkE e c v && !isComp v && noSwap v
    | _ => false)
  | .setIx o i e, s => (match s with
    | .Assign [.Subscript x y _] v _ => chkE o c x && chkE i c y && chkE e c v && !isSlice y && !isComp v
    | _ => false)
  | .setP o a b e, s => (match s with
    | .Assign [.Subscript x (.Tuple [y, z] _ _) _] v _ => chkE o c x && chkE a c y && !starred y && chkE b c z && !starred z && chkE e c v && !isComp v
    | _ => false)
  | .setA k o f e, s => (match s with
    | .Assign [.Attribute y n _] v _ => decide (n = f) && chkE o c y && chkE e c v && c.flds.any fun p => decide (p.1 = k) && decide (p.2 = f)
    | _ => false)
  | .aug i op e, s => (match s with
    | .AugAssign (.Name x _) op' v _ => decide (c.N[i]? = some x) && locB c.sc x && decide (op = op') && chkE e c v
    | _ => false)
  | .augA k o f op e, s => (match s with
    | .AugAssign (.Attribute y n _) op' v _ => decide (n = f) && decide (op = op') && chkE o c y && chkE e c v && c.flds.any fun p => decide (p.1 = k) && decide (p.2 = f)
    | _ => false)
  | .augX _ _ _ _, _ => false
  | .ret e, s => (match s with
    | .Return (some x) _ => chkE e c x
    | .Return none _ => (match e with | .no => true | _ => false)
    | _ => false)
  | .ex e, s => (match s with
    | .Expr x _ => chkE e c x && !isComp x
    | _ => false)
  | .cond t a b, s => (match s with
    | .If x ys zs _ => chkE t c x && tOk t && chkCs c a ys && chkCs c b zs
    | _ => false)
  | .whl t b, s => (match s with
    | .While x ys [] _ => chkE t c x && tOk t && chkCs c b ys
    | _ => false)
  | .for_ t it b, s => (match s with
    | .For tg x ys [] _ => chkTg c t tg && chkIt it c (isTup tg) x && chkCs c b ys && !isSet x
    | _ => false)
def chkCs (c : Cxt) : Cs → List Stmt → Bool
  | .nil, ss => ss.isEmpty
  | .cons a b, ss => (match ss with
    | s :: ss => chkC c a s && chkCs c b ss
    | [] => false)
  | .doors dl dr t ws e1 e2 e3 b r, ss => (match chkDoors c dl dr t ws e1 e2 e3 ss with
    | some p => chkCs c b p.1 && chkCs c r p.2
    | none => false)
end
def upE (K : Fg) (cl : Cl) (m0 : List Addr) (H0 : Hp) (D : L2.Ends) : Ends where
  nx := fun ρ S => ∀ m σ H, Le m0 H0 m H → RS K cl m H S → RE K m H ρ σ → D.nx σ H
  rt := up K cl m0 H0 D.rt
  bk := fun ρ S => ∀ m σ H, Le m0 H0 m H → RS K cl m H S → RE K m H ρ σ → D.bk σ H
  ct := fun ρ S => ∀ m σ H, Le m0 H0 m H → RS K cl m H S → RE K m H ρ σ → D.ct σ H
  xc := upX K cl
def LS (K : Fg) (cl : Cl) (t : Ends → Env → Store → Prop) : TS := fun D σ H => ∃ m ρ S, RS K cl m H S ∧ RE K m H ρ σ ∧ t (upE K cl m H D) ρ S
theorem upE_le {K : Fg} {cl : Cl} {m m1 : List Addr} {H H1 : Hp} {D : L2.Ends} (x : Le m H m1 H1) : Ends.le (upE K cl m H D) (upE K cl m1 H1 D) :=
  ⟨fun ρ S h m' σ' H' le => h m' σ' H' (x.trans le), fun d S => up_le x, fun ρ S h m' σ' H' le => h m' σ' H' (x.trans le), fun ρ S h m' σ' H' le => h m' σ' H' (x.trans le), fun _ _ z => z⟩
theorem PS.mono {X : Cx} {st : Stmt} {t t' : TS} (h : PS X st t) (k : ∀ D σ H, t' D σ H → t D σ H) : PS X st t' := ⟨fun pins s σ H D I q => h.run pins s σ H D I (k D σ H q)⟩
theorem PSs.mono {X : Cx} {st : List Stmt} {t t' : TS} (h : PSs X st t) (k : ∀ D σ H, t' D σ H → t D σ H) : PSs X st t' := ⟨fun pins s σ H D I q => h.run pins s σ H D I (k D σ H q)⟩
theorem swaps_not {v : Expr} {t : Option Expr} {l : Nat} {env : PySem.Env} (h : isComp v = false) : swapsWith v t l env = pure false := by
  cases v <;> first | rfl | cases h
theorem sole_not {v t : Expr} {l : Nat} {env : PySem.Env} (h : isComp v = false) : swapsWithSole [t] v l env = pure false := swaps_not h
section
variable {c : Cxt} {cl : Cl} {F : Sem} {X : Cx}
structure SOk (c : Cxt) (cl : Cl) (F : Sem) (X : Cx) : Prop where
  x : XOk c cl F X
  blk : c.blk = false
  own : PassesOwn (model X.prog X.w) X.A X.env X.xe
  tk : Takes X (fun cls d _ H => cl.E cls d H)
theorem re_free {m : List Addr} {H : Hp} {ρ : Env} {σ : L2.St} (re : RE X.K m H ρ σ) {i : Nat} (h : ρ[i]? = some none) (v : V) : RE X.K m H ρ (σ.set i (some v)) := by
  refine ⟨by rw [List.length_set]; exact re.len, fun j d e => ?_⟩
  have ne : i ≠ j := fun z => by
    rw [← z, h] at e
    cases e
  rw [List.getElem?_set_ne ne]
  exact re.at_ j d e
theorem re_slot {m : List Addr} {H : Hp} {ρ : Env} {σ : L2.St} (re : RE X.K m H ρ σ) {i : Nat} (h : ρ[i]? = some none) (v : V) : (σ.set i (some v))[i]? = some (some v) := by
  have hl : i < σ.length := by
    rw [← re.len]
    exact (List.getElem?_eq_some_iff.mp h).1
  exact List.getElem?_set_self hl
theorem rs_not {m : List Addr} {H : Hp} {S : Store} {p : Addr} (R : RS X.K cl m H S) (np : H p = none) : ∀ n : Nat, m[n]? ≠ some p := fun n z => by
  have hl := (List.getElem?_eq_some_iff.mp z).1
  rw [R.len] at hl
  obtain ⟨u, hu⟩ := (R.at_ n p S[n] z (List.getElem?_eq_getElem hl)).there
  rw [np] at hu
  cases hu
theorem rs_off {m : List Addr} {H : Hp} {S : Store} {p : Addr} {u0 : HO} (R : RS X.K cl m H S) (nm : ∀ n : Nat, m[n]? ≠ some p) (h0 : H p = some u0) (mu : Mu u0) (u : HO) : RS X.K cl m (upd H p u) S :=
  ⟨R.len, R.nd, fun n a o e1 e2 => (R.at_ n a o e1 e2).keep (le_set h0 mu) (fun v h => by rw [upd_ne (show a ≠ p from fun z => nm n (by rw [← z]; exact e1))]; exact h), cl.mono _ _ _ _ (le_set h0 mu) R.gr, tabs_set h0 mu R.tb⟩
def CF (X : Cx) (H : Hp) (l : Expr × Scope × (L2.XK → TE)) (f : Addr) : Prop := ∃ (c' : Addr) (pm ctv : Value), H f = some (LO f (cloO X noPar l.1 l.2.1 pm c' ctv)) ∧ H c' = some (LamX.CodeO c' (qL X))
theorem CF.mono {H H' : Hp} {m m' : List Addr} {l : Expr × Scope × (L2.XK → TE)} {f : Addr} (h : CF X H l f) (le : Le m H m' H') : CF X H' l f := by
  obtain ⟨c', pm, ctv, h1, h2⟩ := h
  exact ⟨c', pm, ctv, le.frz _ _ _ h1, le.ext _ _ h2⟩
theorem round_snd {m0 m : List Addr} {H0 H : Hp} {S : Store} {ρ : Env} {σ : L2.St} {D : L2.Ends} {b : Cs} {es : List E} {e : E} {dl dr t : Nat} {ws : List (Nat × Str)} {ls : List (Expr × Scope × (L2.XK → TE))} {l : Expr × Scope × (L2.XK → TE)} {f : Addr} {fin : Env → Store → Prop} {N BK : L2.St → Hp → Prop}
    (hF : SemMono F) (le0 : Le m0 H0 m H) (R : RS X.K cl m H S) (re : RE X.K m H ρ σ) (hl : l ∈ ls) (cf : CF X H l f) (el : l.2.2 = fun E σ H' Q' => ∃ cl1 : Cl, cl1.at_ = cl.at_ ∧ cl1.E = E ∧ lE X.K cl1 F e σ H' Q')
    (q : wpDs (fun e ρ S Q => wpE F e ρ S Q (upE X.K cl m0 H0 D).xc) dl dr t (wpCs F b) (upE X.K cl m0 H0 D) fin (.told ws e :: es) ρ S)
    (hN : ∀ m' ρ' S' σ' H', Le m H m' H' → RS X.K cl m' H' S' → RE X.K m' H' ρ' σ' → wpDs (fun e ρ S Q => wpE F e ρ S Q (upE X.K cl m0 H0 D).xc) dl dr t (wpCs F b) (upE X.K cl m0 H0 D) fin es ρ' S' → N σ' H') :
    tSeq (tAsg (tDoor X dr (TTel cl.at_ ws) ls) (gName t)) (LS X.K cl (wpCs F b)) { nx := N, rt := D.rt, bk := BK, ct := N } (σ.set dr (some (.ref f))) H := by
  obtain ⟨⟨q1, q2⟩, q3⟩ := q
  obtain ⟨c', pm, ctv, h1, h2⟩ := cf
  have re1 := re_free re q2 (.ref f)
  refine ⟨l, hl, f, c', pm, ctv, re_slot re q2 _, h1, h2, ?_⟩
  rw [el]
  refine told_go hF e R re1 q3 fun d S1 m1 H1 v z le R1 rd re2 => ?_
  show LS X.K cl (wpCs F b) { nx := N, rt := D.rt, bk := BK, ct := N } ((σ.set dr (some (.ref f))).set t (some v)) H1
  refine ⟨m1, ρ.set t (some d), S1, R1, re2.set rd t, wpCs_mono hF b ⟨?_, ?_, ?_, ?_, ?_⟩ z⟩
  · exact fun ρ4 S4 h4 m4 σ4 H4 le4 R4 re4 => hN m4 ρ4 S4 σ4 H4 (le.trans le4) R4 re4 h4
  · exact fun d S4 => up_le (le0.trans le)
  · exact fun _ _ z => z.elim
  · exact fun _ _ z => z.elim
  · exact fun _ _ z => z
theorem seq_go {t u : TS} {D : L2.Ends} {σ : L2.St} {H : Hp} (h : t { D with nx := u D } σ H) : tSeq t u D σ H := h
theorem asgL_go {T : List (Addr × Str)} {l : Expr} {s : Scope} {i : Nat} {D : L2.Ends} {σ : L2.St} {H : Hp} (h : tLamO X T noPar l s σ H fun x H1 => ∀ p, H1 p = none → D.nx (σ.set i (some (.ref p))) (upd H1 p (.lst [x]))) : tAsg (tLst (tCons (tLamO X T noPar l s) tNil)) (gName i) D σ H :=
  ⟨h.1, fun H1 f c' pm ctv a1 a2 a3 a4 => ⟨(show (1 : Nat) ≤ sizeLine by decide), h.2 H1 f c' pm ctv a1 a2 a3 a4⟩⟩
theorem appL_go {T : List (Addr × Str)} {ty : String} {l : Expr} {s : Scope} {i : Nat} {v : V} {D : L2.Ends} {σ : L2.St} {H : Hp} (h1 : σ[i]? = some (some v)) (h2 : tyV X.K ty v H) (h3 : tLamO X T noPar l s σ H fun x H2 => rAppend v [x] H2 fun _ H3 => D.nx σ H3) : tDrop (tBM X.K ty rAppend (tVar i) (tCons (tLamO X T noPar l s) tNil)) D σ H := ⟨v, h1, h2, h3⟩
theorem doors_snd (hF : SemMono F) (ok : SOk c cl F X) {dl dr t : Nat} {ws : List (Nat × Str)} {e1 e2 e3 : E} {b r : Cs} {ss ys rs : List Stmt} (h : chkDoors c dl dr t ws e1 e2 e3 ss = some (ys, rs)) (B : PSs X ys (LS X.K cl (wpCs F b))) (Rr : PSs X rs (LS X.K cl (wpCs F r))) :
    PSs X ss (LS X.K cl (wpCs F (.doors dl dr t ws e1 e2 e3 b r))) := by
  unfold chkDoors at h
  split at h
  · rename_i x1 px1 p1 l1 sc1 lp1 pl1 ps1 x2 px2 n2 a2 p2 l2 sc2 lp2 q2 ps2 x3 px3 n3 a3 p3 l3 sc3 lp3 q3 ps3 y py x4 px4 tn ptn fn pfn y2 py2 pcall pas ys0 pfor ss0
    split at h
    · rename_i hc
      cases h
      unfold doorsB at hc
      simp only [Bool.and_eq_true, decide_eq_true_eq] at hc
      obtain ⟨⟨⟨⟨⟨⟨⟨⟨⟨⟨⟨rfl, rfl⟩, rfl⟩, rfl⟩, rfl⟩, rfl⟩, n1⟩, n2'⟩, n3'⟩, ⟨⟨⟨⟨⟨⟨⟨⟨⟨k1, k2⟩, k3⟩, k4⟩, k5⟩, k6⟩, k7⟩, k8⟩, k9⟩, k10⟩⟩, ⟨⟨⟨⟨⟨⟨j0, j1⟩, j2⟩, j3⟩, j4⟩, j5⟩, j6⟩⟩, ⟨⟨g1, g2⟩, g3⟩⟩ := hc
      split at j0
      · rename_i tq htq
        obtain ⟨y', ws'⟩ := tq
        have j0' : y' = fn ∧ ws' = ws := by simpa using j0
        obtain ⟨rfl, rfl⟩ := j0'
        have ep : ∀ {p : Arguments}, noArgs p = true → p = noPar := fun {p} h5 => by
          unfold noArgs at h5
          split at h5
          · rfl
          · cases h5
        have ep1 := ep j1
        have ep2 := ep j2
        have ep3 := ep j3
        subst ep1 ep2 ep3
        obtain ⟨k, a, g, c0, P, pg, bg, sg, dV, kV, doc, pm, cdv, ct, oc, an, od, osl, Ng, t1, t2, t3, t4, t5, t6, t7, t8, t9, t10, t11, t12, t13, t14, t15, t16, k40, low⟩ := (ok.x.tld _ _ htq).ex
        have sc := ok.x.sc
        have N := ok.x.N
        obtain ⟨o1, o2, _⟩ := okN_of k4
        obtain ⟨o3, o4, _⟩ := okN_of k5
        have LM : ∀ {l : Expr} {s : Scope} {p : Pos}, LamX.lamSB c.sc s = true → PE X (.Lambda noPar l s p) (tLamO X cl.at_.T noPar l s) := fun {l s p} hs => pe_lamv t10 t11 t12 t13 rfl (LamX.lamS_by (by rw [sc]; exact hs))
        have VV : ∀ {p : Pos}, PE X (.Name x4 p) (tVar dl) := fun {p} => pe_var (i := dl) (by rw [N]; exact n1) (by rw [sc]; exact (loc_of k1).elim .inl fun z => .inr (.inl z)) o1 o2
        have G : ∀ {i : Nat} {x : Str} {p : Pos}, c.N[i]? = some x → locB c.sc x = true → PG X (.Name x p) (gName i) := fun {i x p} hi hx => pg_name (i := i) ok.x.nd (by rw [N]; exact hi) (by rw [sc]; exact loc_of hx) (.inl (ok.x.tg ok.blk x))
        let T : E → L2.XK → TE := fun e E σ H' Q' => ∃ cl1 : Cl, cl1.at_ = cl.at_ ∧ cl1.E = E ∧ lE X.K cl1 F e σ H' Q'
        let ls : List (Expr × Scope × (L2.XK → TE)) := [(l1, sc1, T e1), (l2, sc2, T e2), (l3, sc3, T e3)]
        have hls : ∀ l ∈ ls, LamX.LamS X.env.scope l.2.1 ∧ ∀ (A : Around) (outer : List PySem.Env) (s : Shared) (H : Hp) (E : L2.XK) (f c' : Addr), Room k (A.deeper (LamX.lamEnv X l.2.1 s.heap.objs.size f c')) → PE (LamX.lamCx X A outer s H E l.2.1 f c') l.1 (l.2.2 E) := by
          intro l hl
          simp only [ls, List.mem_cons, List.not_mem_nil, or_false] at hl
          rcases hl with rfl | rfl | rfl
          · exact ⟨LamX.lamS_by (by rw [sc]; exact j4), lam_body hF ok.x g1 k40 low⟩
          · exact ⟨LamX.lamS_by (by rw [sc]; exact j5), lam_body hF ok.x g2 k40 low⟩
          · exact ⟨LamX.lamS_by (by rw [sc]; exact j6), lam_body hF ok.x g3 k40 low⟩
        have A1 := ps_asg (X := X) (pos := ps1) (pe_lst (pos := pl1) (pa_cons (LM (l := l1) (p := lp1) j4) pa_nil)) (G (p := px1) n1 k1) rfl rfl rfl
        have A2 := ps_expr (X := X) (pos := ps2) (pe_bm (pa_all .append) (slot_all .append) (type_all .append) (L2.mt_append) (VV (p := px2)) (pa_cons (LM (l := l2) (p := lp2) j5) pa_nil) (cpos := q2) rfl rfl k9 rfl rfl) rfl
        have A3 := ps_expr (X := X) (pos := ps3) (pe_bm (pa_all .append) (slot_all .append) (type_all .append) (L2.mt_append) (VV (p := px3)) (pa_cons (LM (l := l3) (p := lp3) j6) pa_nil) (cpos := q3) rfl rfl k10 rfl rfl) rfl
        have CD := pe_door (p := pfn) (q := py2) (pos := pcall) (by show X.env.scope.names.lookup _ = _; rw [sc]; exact gl_of k8) t1 t2 t3 t4 t5 t6 t7 t8 t9 t14 hls (i := dr) (y := y2) (by rw [N]; exact n2') (by rw [sc]; exact (loc_of k2).elim .inl fun z => .inr (.inl z)) o3 o4 (okN_of k7).1 t15 t16
        have A5 := ps_asg (X := X) (pos := pas) CD (G (p := ptn) n3' k3) rfl rfl rfl
        have A4 := ps_for (X := X) (pos := pfor) ok.own ok.x.calm (pi_list (tg := .Name y2 py) (pe_lockL (VV (p := px4)))) (G (p := py) n2' k2) (pss_cons A5 B) (fun _ => rfl)
        refine PSs.mono (pss_cons A1 (pss_cons A2 (pss_cons A3 (pss_cons A4 Rr)))) fun D σ H q => ?_
        obtain ⟨m, ρ, S, R, re, q⟩ := q
        replace q : wpDs (fun e ρ S Q => wpE F e ρ S Q (upE X.K cl m H D).xc) dl dr t (wpCs F b) (upE X.K cl m H D) (wpCs F r (upE X.K cl m H D)) [.told ws' e1, .told ws' e2, .told ws' e3] ρ S := q
        have fr := q.1.1
        refine seq_go (asgL_go (lam_go R fun H1 f1 c1 pm1 cv1 le1 R1 kp1 hf1 hc1 => ?_))
        intro p np
        have nm0 : ∀ n : Nat, m[n]? ≠ some p := rs_not R1 np
        have le2 : Le m H m (upd H1 p (.lst [.ref f1])) := le1.trans (le_new np)
        have R2 := R1.new (u := .lst [.ref f1]) np
        have re2 := re_free (re.mono le2) fr (.ref p)
        have sl2 := re_slot (re.mono le2) fr (.ref p)
        have cf1 : CF X (upd H1 p (.lst [.ref f1])) (l1, sc1, T e1) f1 := CF.mono (H := H1) ⟨c1, pm1, cv1, hf1, hc1⟩ (le_new (m := m) np)
        have hp2 : (upd H1 p (.lst [.ref f1])) p = some (.lst [.ref f1]) := upd_same
        clear hf1 hc1 kp1
        show tSeq _ _ D (σ.set dl (some (.ref p))) (upd H1 p (.lst [.ref f1]))
        generalize upd H1 p (.lst [.ref f1]) = H2 at *
        generalize σ.set dl (some (.ref p)) = σ2 at *
        refine seq_go (appL_go sl2 (.inl ⟨rfl, _, .inl (.inl hp2)⟩) (lam_go R2 fun H3 f2 c2 pm2 cv2 le3 R3 kp3 hf2 hc2 => ?_))
        have hp3 := kp3 p _ hp2 (fun _ z => by cases z)
        refine ⟨p, [.ref f1], .ref f2, rfl, rfl, hp3, (show (1 : Nat) < sizeLine by decide), ?_⟩
        have nm : ∀ n : Nat, m[n]? ≠ some p := fun n z => nm0 n z
        have R4 := rs_off R3 nm hp3 trivial (.lst ([.ref f1] ++ [.ref f2]))
        have le4 : Le m H3 m (upd H3 p (.lst ([.ref f1] ++ [.ref f2]))) := le_set hp3 trivial
        have cf1 := cf1.mono (le3.trans le4)
        have cf2 : CF X (upd H3 p (.lst ([.ref f1] ++ [.ref f2]))) (l2, sc2, T e2) f2 := CF.mono (H := H3) ⟨c2, pm2, cv2, hf2, hc2⟩ le4
        have hp4 : (upd H3 p (.lst ([.ref f1] ++ [.ref f2]))) p = some (.lst ([.ref f1] ++ [.ref f2])) := upd_same
        have le24 := le2.trans (le3.trans le4)
        have re4 := re2.mono (le3.trans le4)
        clear hf2 hc2 kp3 R3 hp3
        show tSeq _ _ D σ2 (upd H3 p (.lst ([.ref f1] ++ [.ref f2])))
        generalize upd H3 p (.lst ([.ref f1] ++ [.ref f2])) = H4 at *
        refine seq_go (appL_go sl2 (.inl ⟨rfl, _, .inl (.inl hp4)⟩) (lam_go R4 fun H5 f3 c3 pm3 cv3 le5 R5 kp5 hf3 hc3 => ?_))
        have hp5 := kp5 p _ hp4 (fun _ z => by cases z)
        refine ⟨p, [.ref f1] ++ [.ref f2], .ref f3, rfl, rfl, hp5, (by show (2 : Nat) < sizeLine; decide), ?_⟩
        have R6 := rs_off R5 nm hp5 trivial (.lst ([.ref f1] ++ [.ref f2] ++ [.ref f3]))
        have le6 : Le m H5 m (upd H5 p (.lst ([.ref f1] ++ [.ref f2] ++ [.ref f3]))) := le_set hp5 trivial
        have cf1 := cf1.mono (le5.trans le6)
        have cf2 := cf2.mono (le5.trans le6)
        have cf3 : CF X (upd H5 p (.lst ([.ref f1] ++ [.ref f2] ++ [.ref f3]))) (l3, sc3, T e3) f3 := CF.mono (H := H5) ⟨c3, pm3, cv3, hf3, hc3⟩ le6
        have hp6 : (upd H5 p (.lst ([.ref f1] ++ [.ref f2] ++ [.ref f3]))) p = some (.lst ([.ref f1] ++ [.ref f2] ++ [.ref f3])) := upd_same
        have le26 := le24.trans (le5.trans le6)
        have re6 := re4.mono (le5.trans le6)
        clear hf3 hc3 kp5 R5 hp5
        show tSeq _ _ D σ2 (upd H5 p (.lst ([.ref f1] ++ [.ref f2] ++ [.ref f3])))
        generalize upd H5 p (.lst ([.ref f1] ++ [.ref f2] ++ [.ref f3])) = H6 at *
        refine ⟨.ref p, sl2, p, _, rfl, hp6, fun o => ⟨p, rfl, ⟨_, .inl (.inr ⟨o, upd_same⟩)⟩, ?_⟩⟩
        have R7 := rs_off R6 nm hp6 trivial (.frz o (.lst ([.ref f1] ++ [.ref f2] ++ [.ref f3])))
        have le7 : Le m H6 m (upd H6 p (.frz o (.lst ([.ref f1] ++ [.ref f2] ++ [.ref f3])))) := le_set hp6 trivial
        have cf1 := cf1.mono le7
        have cf2 := cf2.mono le7
        have cf3 := cf3.mono le7
        have hp7 : (upd H6 p (.frz o (.lst ([.ref f1] ++ [.ref f2] ++ [.ref f3])))) p = some (.frz o (.lst ([.ref f1] ++ [.ref f2] ++ [.ref f3]))) := upd_same
        have le27 := le26.trans le7
        have re7 := re6.mono le7
        generalize upd H6 p (.frz o (.lst ([.ref f1] ++ [.ref f2] ++ [.ref f3]))) = H7 at *
        have one : ∀ (i : Nat) (l : Expr × Scope × (L2.XK → TE)) (e : E) (f : Addr), l ∈ ls → l.2.2 = T e → CF X H7 l f → ([V.ref f1] ++ [.ref f2] ++ [.ref f3])[i]? = some (.ref f) → ([E.told ws' e1, .told ws' e2, .told ws' e3] : List E).drop i = .told ws' e :: ([E.told ws' e1, .told ws' e2, .told ws' e3] : List E).drop (i + 1) → i < 3 →
            ∀ (n : Nat) (σ' : L2.St) (H' : Hp), (∃ m' ρ' S', Le m H7 m' H' ∧ RS X.K cl m' H' S' ∧ RE X.K m' H' ρ' σ' ∧ n = 3 - i ∧ i ≤ 3 ∧ wpDs (fun e ρ S Q => wpE F e ρ S Q (upE X.K cl m H D).xc) dl dr t (wpCs F b) (upE X.K cl m H D) (wpCs F r (upE X.K cl m H D)) (([E.told ws' e1, .told ws' e2, .told ws' e3] : List E).drop i) ρ' S') →
            (Itl X.K p).go i H' ∧ ∃ N : L2.St → Hp → Prop, (∀ σ' H', N σ' H' → ∃ m', m' < n ∧ (∃ m2 ρ' S', Le m H7 m2 H' ∧ RS X.K cl m2 H' S' ∧ RE X.K m2 H' ρ' σ' ∧ m' = 3 - (i + 1) ∧ i + 1 ≤ 3 ∧ wpDs (fun e ρ S Q => wpE F e ρ S Q (upE X.K cl m H D).xc) dl dr t (wpCs F b) (upE X.K cl m H D) (wpCs F r (upE X.K cl m H D)) (([E.told ws' e1, .told ws' e2, .told ws' e3] : List E).drop (i + 1)) ρ' S')) ∧
              ∀ x H2, (Itl X.K p).yld i H' x H2 → gName dr x σ' H2 fun σ2 H3 => tSeq (tAsg (tDoor X dr (TTel cl.at_ ws') ls) (gName t)) (LS X.K cl (wpCs F b)) { nx := N, rt := D.rt, bk := LS X.K cl (wpCs F r) D, ct := N } σ2 H3 := by
          intro i l e f hl el cf ef ed hi n σ' H' hW
          obtain ⟨m', ρ', S', le', R', re', en, hi3, q'⟩ := hW
          have hp := le'.frz _ _ _ hp7
          have sq : SqL X.K H' p ([.ref f1] ++ [.ref f2] ++ [.ref f3]) := .inl (.inr ⟨o, hp⟩)
          refine ⟨⟨_, _, sq, ef⟩, fun σ2 H2 => ∃ m2 ρ2 S2, Le m H7 m2 H2 ∧ RS X.K cl m2 H2 S2 ∧ RE X.K m2 H2 ρ2 σ2 ∧ wpDs (fun e ρ S Q => wpE F e ρ S Q (upE X.K cl m H D).xc) dl dr t (wpCs F b) (upE X.K cl m H D) (wpCs F r (upE X.K cl m H D)) (([E.told ws' e1, .told ws' e2, .told ws' e3] : List E).drop (i + 1)) ρ2 S2, ?_, ?_⟩
          · rintro σ2 H2 ⟨m2, ρ2, S2, b1, b2, b3, b4⟩
            exact ⟨3 - (i + 1), by omega, m2, ρ2, S2, b1, b2, b3, rfl, by omega, b4⟩
          · rintro x H2 ⟨rfl, hx⟩
            have ex := hx _ sq
            rw [ef] at ex
            cases ex
            rw [ed] at q'
            exact round_snd hF (le27.trans le') R' re' hl (cf.mono le') el q' fun m2 ρ2 S2 σ2 H3 le2 R2 re2 q2 => ⟨m2, ρ2, S2, le'.trans le2, R2, re2, q2⟩
        refine ⟨fun i n σ' H' => ∃ m' ρ' S', Le m H7 m' H' ∧ RS X.K cl m' H' S' ∧ RE X.K m' H' ρ' σ' ∧ n = 3 - i ∧ i ≤ 3 ∧ wpDs (fun e ρ S Q => wpE F e ρ S Q (upE X.K cl m H D).xc) dl dr t (wpCs F b) (upE X.K cl m H D) (wpCs F r (upE X.K cl m H D)) (([E.told ws' e1, .told ws' e2, .told ws' e3] : List E).drop i) ρ' S',
          ⟨3, m, ρ, S, Le.refl m H7, R7, re7, rfl, by decide, q⟩, fun i n σ' H' hW => ?_⟩
        match i, hW with
        | 0, hW => exact .inr (one 0 _ e1 f1 (by simp [ls]) rfl cf1 rfl rfl (by decide) n σ' H' hW)
        | 1, hW => exact .inr (one 1 _ e2 f2 (by simp [ls]) rfl cf2 rfl rfl (by decide) n σ' H' hW)
        | 2, hW => exact .inr (one 2 _ e3 f3 (by simp [ls]) rfl cf3 rfl rfl (by decide) n σ' H' hW)
        | 3, hW =>
          obtain ⟨m', ρ', S', le', R', re', en, hi3, q'⟩ := hW
          have hp := le'.frz _ _ _ hp7
          exact .inl ⟨⟨_, .inl (.inr ⟨o, hp⟩), Nat.le_refl 3⟩, m', ρ', S', R', re', wpCs_mono hF r (upE_le (le27.trans le')) q'⟩
        | j + 4, hW =>
          obtain ⟨_, _, _, _, _, _, _, hi3, _⟩ := hW
          exact absurd hi3 (by omega)
      · cases j0
    · cases h
  · cases h
def rSet (K : Fg) (cl : Cl) : TSet := fun o i v H Q => ∃ m S d1 d2 d3, RS K cl m H S ∧ RD K m H d1 o ∧ RD K m H d2 i ∧ RD K m H d3 v ∧ setIx d1 d2 d3 S fun S' => ∀ H', Le m H m H' → RS K cl m H' S' → Q H'
theorem set_snd (hu : X.A.units + 650 < cLine) : PSet X (rSet X.K cl) := by
  intro pins s σ H o i v ov iv u Q I ro ri rv ⟨m, S, d1, d2, d3, R, r1, r2, r3, h⟩
  unfold setIx at h
  split at h
  · split at h
    · rename_i n l g
      split at h
      · split at h
        · rename_i j ej
          cases r2
          cases r1 with
          | ref hm =>
            obtain ⟨vs, h1, q⟩ := R.at_ _ _ _ hm g
            refine set_list pins s σ H _ _ v ov iv u Q I ro ri rv ⟨_, vs, _, j, rfl, rfl, h1, by rw [← q.length]; exact ej, ?_⟩
            refine h _ (le_set h1 trivial) (R.set hm h1 trivial ⟨_, upd_same, ?_⟩)
            exact (q.set r3 j).mono (le_set h1 trivial)
        · exact h.elim
      · exact h.elim
    · rename_i n kvs g
      split at h
      · rename_i k ek
        cases r1 with
        | ref hm =>
          obtain ⟨l, h1, q⟩ := R.at_ _ _ _ hm g
          have ey := key_of_rd r2 ek
          subst ey
          cases ro
          have hl := lim_le
          have := q.length
          have := h.1
          refine d_setItem (by omega) I (DPut.k h1 (by omega)) ri rv fun s' I' => ⟨_, I', ?_⟩
          exact h.2 _ (le_set h1 trivial) (R.set hm h1 trivial ⟨_, upd_same, (q.put r3).mono (le_set h1 trivial)⟩)
      · exact h.elim
    · exact h.elim
  · exact h.elim
def rSetP : TSet := fun o i v H Q => ∃ (a b : Addr) (kvs : List (List Key × V)) (k : List Key), o = .ref a ∧ i = .ref b ∧ H a = some (.dT kvs) ∧ H b = some (.tup (k.map kV)) ∧ kvs.length < sizeLine ∧ Q (upd H a (.dT (putK kvs k v)))
theorem setP_snd (hu : X.A.units + 650 < cLine) : PSet X rSetP := by
  intro pins s σ H o i v ov iv u Q I ro ri rv ⟨a, b, kvs, k, e1, e2, h1, h2, hl, q⟩
  subst e1 e2
  cases ro
  exact d_setItem (by omega) I (DPut.t h1 h2 hl) ri rv fun s' I' => ⟨_, I', q⟩
theorem assign_sub {o i : Expr} {pos : Pos} {env : PySem.Env} (h : isSlice i = false) : ∀ v, assign (.Subscript o i pos) env v = (do
      let ov ← holding [v] (eval o env)
      let iv ← holding [v, ov] (eval i env)
      standAt pos
      holding [v, ov, iv] (setItem ov iv v)
      release [v, ov, iv] []) := by
  intro v
  cases i <;> first | rfl | cases h
theorem for_snd {D : L2.Ends} {it : It} {t : Tg} {b : Cs} {tb : TS} {σ : L2.St} {H : Hp} (hF : SemMono F) (hb : ∀ D σ H, LS X.K cl (wpCs F b) D σ H → tb D σ H) (h : LS X.K cl (wpC F (.for_ t it b)) D σ H) :
    tFor (lI X.K cl F it) (lG X.K cl t) tb D σ H := by
  obtain ⟨m, ρ, S, R, re, q⟩ := h
  replace q : wpIt F it ρ S (fun l G S1 => wpFor t G (wpCs F b) (upE X.K cl m H D) l ρ S1) (upX X.K cl) := q
  refine ⟨m, ρ, S, R, re, wpIt_mono hF it (fun l G S1 q1 m1 H1 J le1 R1 wk => ?_) (fun _ _ z => z) q⟩
  refine ⟨fun i n σ' H' => ∃ m' ρ' S', Le m1 H1 m' H' ∧ RS X.K cl m' H' S' ∧ RE X.K m' H' ρ' σ' ∧ n = (l.drop i).length ∧ wpFor t G (wpCs F b) (upE X.K cl m H D) (l.drop i) ρ' S',
    ⟨_, m1, ρ, S1, Le.refl m1 H1, R1, re.mono le1, rfl, q1⟩, fun i n σ' H' hW => ?_⟩
  obtain ⟨m', ρ', S', le', R', re', en, q'⟩ := hW
  by_cases hi : i < l.length
  · have ed : l.drop i = l[i] :: l.drop (i + 1) := List.drop_eq_getElem_cons hi
    rw [ed] at q' en
    obtain ⟨g, q2⟩ := q'
    obtain ⟨go, yld⟩ := wk.2 m' H' S' i l[i] le' R' g (List.getElem?_eq_getElem hi)
    refine .inr ⟨go, fun σ2 H2 => ∃ m' ρ' S', Le m1 H1 m' H2 ∧ RS X.K cl m' H2 S' ∧ RE X.K m' H2 ρ' σ2 ∧ wpFor t G (wpCs F b) (upE X.K cl m H D) (l.drop (i + 1)) ρ' S', fun σ2 H2 hN => ?_, fun x H2 hx => ?_⟩
    · obtain ⟨m2, ρ2, S2, a1, a2, a3, a4⟩ := hN
      refine ⟨_, ?_, m2, ρ2, S2, a1, a2, a3, rfl, a4⟩
      rw [en, List.length_cons]
      omega
    · obtain ⟨m2, le2, R2, rd⟩ := yld x H2 hx
      split at q2
      · rename_i ρ2 e2
        refine lG_go R2 (re'.mono le2) rd e2 fun m3 H3 σ3 le3 R3 re3 _ => hb _ _ _ ?_
        have l13 : Le m1 H1 m3 H3 := (le'.trans le2).trans le3
        have l3 : Le m H m3 H3 := le1.trans l13
        refine ⟨m3, ρ2, S', R3, re3, wpCs_mono hF b (K := { upE X.K cl m H D with nx := wpFor t G (wpCs F b) (upE X.K cl m H D) (l.drop (i + 1)), ct := wpFor t G (wpCs F b) (upE X.K cl m H D) (l.drop (i + 1)), bk := (upE X.K cl m H D).nx }) ⟨?_, ?_, ?_, ?_, ?_⟩ q2⟩
        · exact fun ρ4 S4 h4 m4 σ4 H4 le4 R4 re4 => ⟨m4, ρ4, S4, l13.trans le4, R4, re4, h4⟩
        · exact fun d S4 => up_le l3
        · exact fun ρ4 S4 h4 m4 σ4 H4 le4 R4 re4 => h4 m4 σ4 H4 (l3.trans le4) R4 re4
        · exact fun ρ4 S4 h4 m4 σ4 H4 le4 R4 re4 => ⟨m4, ρ4, S4, l13.trans le4, R4, re4, h4⟩
        · exact fun _ _ z => z
      · exact q2.elim
  · refine .inl ⟨?_, ?_⟩
    · rw [List.drop_eq_nil_of_le (by omega)] at q'
      exact wk.1 m' H' S' i le' R' q'.1 (by omega)
    · rw [List.drop_eq_nil_of_le (by omega)] at q'
      exact q'.2 m' σ' H' (le1.trans le') R' re'
theorem whl_snd {D : L2.Ends} {t : E} {b : Cs} {tb : TS} {σ : L2.St} {H : Hp} (hF : SemMono F) (hb : ∀ D σ H, LS X.K cl (wpCs F b) D σ H → tb D σ H) (h : LS X.K cl (wpC F (.whl t b)) D σ H) :
    tWhile (tB (lE X.K cl F t)) tb D σ H := by
  obtain ⟨m, ρ, S, R, re, k, q⟩ := h
  refine ⟨fun n σ' H' => ∃ m' ρ' S', Le m H m' H' ∧ RS X.K cl m' H' S' ∧ RE X.K m' H' ρ' σ' ∧ wpWh (fun ρ S Q => wpE F t ρ S Q (upX X.K cl)) (wpCs F b) (upE X.K cl m H D) n ρ' S', ⟨k, m, ρ, S, Le.refl m H, R, re, q⟩, fun n σ' H' hW => ?_⟩
  obtain ⟨m', ρ', S', le', R', re', q'⟩ := hW
  cases n with
  | zero => exact (show False from q').elim
  | succ n =>
    replace q' : wpE F t ρ' S' _ (upX X.K cl) := q'
    refine le_step hF t R' re' q' fun d S1 m1 H1 v q le R1 rd re1 => ?_
    have l1 : Le m H m1 H1 := le'.trans le
    split at q
    · refine ⟨true, bl_of rd, (if_pos rfl).mpr ⟨fun σ2 H2 => ∃ m' ρ' S', Le m H m' H2 ∧ RS X.K cl m' H2 S' ∧ RE X.K m' H2 ρ' σ2 ∧ wpWh (fun ρ S Q => wpE F t ρ S Q (upX X.K cl)) (wpCs F b) (upE X.K cl m H D) n ρ' S', fun σ2 H2 hN => ⟨n, Nat.lt_succ_self n, hN⟩, hb _ _ _ ?_⟩⟩
      refine ⟨m1, ρ', S1, R1, re1, wpCs_mono hF b (K := { upE X.K cl m H D with nx := wpWh (fun ρ S Q => wpE F t ρ S Q (upX X.K cl)) (wpCs F b) (upE X.K cl m H D) n, ct := wpWh (fun ρ S Q => wpE F t ρ S Q (upX X.K cl)) (wpCs F b) (upE X.K cl m H D) n, bk := (upE X.K cl m H D).nx }) ⟨?_, ?_, ?_, ?_, ?_⟩ q⟩
      · exact fun ρ4 S4 h4 m4 σ4 H4 le4 R4 re4 => ⟨m4, ρ4, S4, l1.trans le4, R4, re4, h4⟩
      · exact fun d S4 => up_le l1
      · exact fun ρ4 S4 h4 m4 σ4 H4 le4 R4 re4 => h4 m4 σ4 H4 (l1.trans le4) R4 re4
      · exact fun ρ4 S4 h4 m4 σ4 H4 le4 R4 re4 => ⟨m4, ρ4, S4, l1.trans le4, R4, re4, h4⟩
      · exact fun _ _ z => z
    · exact ⟨false, bl_of rd, (if_neg Bool.false_ne_true).mpr (q m1 σ' H1 l1 R1 re1)⟩
    · exact q.elim
theorem swap_none {tg v : Expr} {env : PySem.Env} (h : noSwap v = true) : swappedStores [tg] v env = pure none := by
  cases v with
  | Tuple es k p =>
    have h2 : es.all (foldedForSure 8) = true := h
    unfold swappedStores
    cases tg <;> first | rfl | skip
    all_goals
      dsimp only
      simp only [h2, if_true, pure_bind]
      repeat' split
      all_goals rfl
  | _ => cases tg <;> rfl
theorem swap_cell {xs : List Expr} {k : Nat} {p : Pos} {v : Expr} {env : PySem.Env} (h : cellTg env.scope xs = true) : swappedStores [.Tuple xs k p] v env = pure none := by
  cases v with
  | Tuple es k2 p2 =>
    obtain ⟨x, hx, e⟩ := List.any_eq_true.mp h
    unfold swappedStores
    dsimp only
    split
    · rfl
    · split
      · rfl
      · split
        · rfl
        · rename_i h3
          exfalso
          rw [Bool.or_eq_true, not_or] at h3
          have h4 := h3.1
          simp at h4
          refine h4 x hx ?_
          cases x with
          | Name id pos =>
            dsimp only at e ⊢
            have ek : env.kindOf id = env.scope.names.lookup id := rfl
            rw [ek]
            split at e
            · cases e
            · rename_i hn
              rw [if_neg]
              intro z
              exact hn z.1
          | _ => rfl
  | _ => rfl
theorem swap_or {xs : List Expr} {k : Nat} {p : Pos} {v : Expr} {env : PySem.Env} {sc : Scope} (e : env.scope = sc) (h : (noSwap v || cellTg sc xs) = true) : swappedStores [.Tuple xs k p] v env = pure none := by
  rcases Bool.or_eq_true_iff.mp h with z | z
  · exact swap_none z
  · exact swap_cell (by rw [e]; exact z)
theorem block_fn {env : PySem.Env} (h : env.scope.kind = .function) : env.blockKind = .function := by
  unfold Env.blockKind
  rw [h]
  rfl
theorem fn_of {sc : Scope} (h : fnB sc = true) : sc.kind = .function := by
  unfold fnB at h
  split at h
  · assumption
  · cases h
theorem swap_two {x y : Str} {px py pt : Pos} {kt k2 : Nat} {pt2 : Pos} {u w : Expr} {env : PySem.Env} (hk : env.scope.kind = .function) (hx : env.scope.names.lookup x = some .local) (hy : env.scope.names.lookup y = some .local) (hl : (px.line == py.line) = true) (hne : x ≠ y) (su : starred u = false) (sw : starred w = false)
    (hf : (foldedForSure 8 u && foldedForSure 8 w) = false) (hc : (constantsAlone 8 u && constantsAlone 8 w) = false) : swappedStores [.Tuple [.Name x px, .Name y py] kt pt] (.Tuple [u, w] k2 pt2) env = pure (some [x, y]) := by
  have e1 : env.kindOf x = some .local := hx
  have e2 : env.kindOf y = some .local := hy
  have e3 := block_fn hk
  have e5 : py.line = px.line := (eq_of_beq hl).symm
  have e6 : [u, w].all (foldedForSure 8) = false := by simpa using hf
  have e7 : [u, w].all (constantsAlone 8) = false := by simpa using hc
  have e8 : ([x, y].eraseDups).length = 2 := by
    have : (y == x) = false := by simpa using Ne.symm hne
    simp [List.eraseDups_cons, this, Ne.symm hne]
  unfold swappedStores
  simp only [e6, e7, e3]
  simp [e1, e2, e5, e8, Expr.pos]
  intro h
  rcases h with h | h
  · cases u <;> first | (cases su; done) | (cases h; done)
  · cases w <;> first | (cases sw; done) | (cases h; done)
theorem used_eq {elt : Expr} {gs : List Comprehension} {scope : Scope} {pos py : Pos} {y : Str} {l : Nat} {env : PySem.Env} (hk : env.scope.kind = .function) : swapsWith (.ListComp elt gs scope pos) (some (.Name y py)) l env = pure (usedB env.scope scope y py pos) := by
  have hb := block_fn hk
  unfold swapsWith usedB
  simp only [hb, Expr.pos]
  cases e : env.scope.names.lookup y with
  | none =>
    have e2 : env.kindOf y = none := e
    simp [e2]
  | some k =>
    have e2 : env.kindOf y = some k := e
    cases k <;> first | (simp [e2]; done) | (simp only [e2]; rfl)
theorem used_eqD {kx vx : Expr} {gs : List Comprehension} {scope : Scope} {pos py : Pos} {y : Str} {l : Nat} {env : PySem.Env} (hk : env.scope.kind = .function) : swapsWith (.DictComp kx vx gs scope pos) (some (.Name y py)) l env = pure (usedB env.scope scope y py pos) := by
  have hb := block_fn hk
  unfold swapsWith usedB
  simp only [hb, Expr.pos]
  cases e : env.scope.names.lookup y with
  | none =>
    have e2 : env.kindOf y = none := e
    simp [e2]
  | some k =>
    have e2 : env.kindOf y = some k := e
    cases k <;> first | (simp [e2]; done) | (simp only [e2]; rfl)
theorem used_local {sc scope : Scope} {y : Str} {py pos : Pos} (h : usedB sc scope y py pos = true) : sc.names.lookup y = some .local := by
  unfold usedB at h
  obtain ⟨h1, _, _⟩ := and3 h
  split at h1
  · assumption
  · cases h1
theorem ps_setDc {i : Nat} {y : Str} {py : Pos} {kx vx tg iter : Expr} {ifs : List Expr} {scope : Scope} {own : List (Str × Nat)} {pos spos : Pos} {wi : TI} {g : TG} {tt : TT} {tk tv : TE} (hc : X.calm = true) (hN : X.N.Nodup) (hy : X.N[i]? = some y) (hyl : X.env.scope.names.lookup y = some .local)
    (hsw : swapsWith (.DictComp kx vx [⟨tg, iter, ifs, 0⟩] scope pos) (some (.Name y py)) spos.line X.env = pure true) (hi : PI X tg iter wi) (ok : BlkOk X.N X.env.scope scope own)
    (hg : ∀ (s : Shared) (H : Hp) (C : Addr) (cs : List (Str × Addr)) (fp : List Addr), PG (X.blk s H scope (compEnvC scope cs C X.env) fp) tg g)
    (ht : ∀ (s : Shared) (H : Hp) (C : Addr) (cs : List (Str × Addr)) (fp : List Addr), PTs (X.blk s H scope (compEnvC scope cs C X.env) fp) ifs tt)
    (hk : ∀ (s : Shared) (H : Hp) (C : Addr) (cs : List (Str × Addr)) (fp : List Addr), PE (X.blk s H scope (compEnvC scope cs C X.env) fp) kx tk)
    (he : ∀ (s : Shared) (H : Hp) (C : Addr) (cs : List (Str × Addr)) (fp : List Addr), PE (X.blk s H scope (compEnvC scope cs C X.env) fp) vx tv) (hs : ∀ x, foldedSetIterable iter X.env x = pure x) :
    PS X (.Assign [.Name y py] (.DictComp kx vx [⟨tg, iter, ifs, 0⟩] scope pos) spos) (tAsg (tDc wi g tt tk tv (own.map (·.2))) (gName i)) := by
  refine ⟨fun pins s σ H D I h => ?_⟩
  rw [exec_Assign_Name_used _ _ _ _ hsw]
  refine wpAny_bind (wpAny_standAt (wpAny_bind ?_))
  show wpAny _ X.A (do let _ ← comprehension (.DictComp kx vx [⟨tg, iter, ifs, 0⟩] scope pos) scope X.env (firstIterPos [⟨tg, iter, ifs, 0⟩] pos) newDict false (eval iter X.env) (some (assign (.Name y py) X.env))) _ _ s
  replace h : tDc wi g tt tk tv (own.map (·.2)) σ H (fun x H1 => gName i x σ H1 D.nx) := h
  refine wpAny_bind (thn (dc_core (Qf := fun _ s' => SP X pins D .next s') hc hN I hi ok hg ht hk he hs h fun L C s' m H' I' q hn f => ?_) fun _ s' hq => wpAny_pure (wpAny_pure hq))
  show wpAny _ _ (assign (.Name y py) X.env (.ref L)) _ _ _
  refine wpAny_assign_Name (store_ok2 (v := V.ref L) I' hN hy (.inl hyl) rfl (fun s2 I2 ⟨a, sb, ha⟩ => ?_) (.inr hyl))
  obtain ⟨f0, f1, f2, f3, f4, f5⟩ := f
  have haC : C ≠ a := by
    rcases ha with z | z
    · rw [z]; exact f1
    · exact fun e => f4 y a z e.symm
  refine ⟨m, hn.sameBut sb haC, fun h3 sb3 => ?_⟩
  exact ⟨_, H', I2.turned (t' := s2.toks) (fun b o hb e => (sb3.2 b hb).trans e) f0 f1 f3 f4 f5, q⟩
theorem set_any (hF : SemMono F) (ok : SOk c cl F X) {i : Nat} {e : E} {x : Str} {px spos : Pos} {v : Expr} (hi : c.N[i]? = some x) (hx : locB c.sc x = true) (hfn : fnB c.sc = true) (h : chkE e c v = true) : PS X (.Assign [.Name x px] v spos) (tAsg (lE X.K cl F e) (gName i)) := by
  have hi' : X.N[i]? = some x := by rw [ok.x.N]; exact hi
  have hx' : Loc X.env.scope x := by rw [ok.x.sc]; exact loc_of hx
  have hk : X.env.scope.kind = .function := by rw [ok.x.sc]; exact fn_of hfn
  have A := (sndE hF e ok.x _ h).v
  have plain : (swapsWith v (some (.Name x px)) spos.line X.env = pure false) → PS X (.Assign [.Name x px] v spos) (tAsg (lE X.K cl F e) (gName i)) := fun hs =>
    ps_set ok.x.nd hi' hx' A hs (.inl (ok.x.tg ok.blk _))
  by_cases hcmp : isComp v = false
  · exact plain (swaps_not hcmp)
  · cases v with
    | ListComp elt gs scope pos =>
      have hsw := used_eq (elt := elt) (gs := gs) (scope := scope) (pos := pos) (py := px) (y := x) (l := spos.line) hk
      cases hu : usedB X.env.scope scope x px pos with
      | false => rw [hu] at hsw; exact plain hsw
      | true =>
        rw [hu] at hsw
        have hyl := used_local hu
        cases e with
        | bad => exact ⟨fun pins s σ H D I ⟨_, _, _, _, _, h⟩ => h.elim⟩
        | lc own t it cd e =>
          unfold chkE at h
          split at h
          · rename_i y tg i2 fs scope2 pos2 eq
            cases eq
            obtain ⟨h1, h7, h8⟩ := and3 h
            obtain ⟨h1, h5, h6⟩ := and3 h1
            obtain ⟨h1, h3, h4⟩ := and3 (show ((_ && _) && _) = true from h1)
            have B : BlkOk X.N X.env.scope scope (ownP c.N own) := by
              rw [ok.x.N, ok.x.sc]
              exact blkOk_by h1
            have hs : ∀ j ∈ t.slots, j ∈ own := fun j hj => by simpa using List.all_eq_true.mp h4 j hj
            have ho : (ownP c.N own).map (·.2) = own := by
              unfold ownP
              rw [List.map_map]
              exact List.map_id' own
            have PI0 := sndIt hF it ok.x (tg := tg) _ h5
            have key : ∀ {tt : TT}, (∀ σ H Q, tB (lE X.K cl.noE F cd) σ H Q → tt σ H Q) → (∀ (s : Shared) (H : Hp) (C : Addr) (cs : List (Str × Addr)) (fp : List Addr), PTs (X.blk s H scope (compEnvC scope cs C X.env) fp) fs tt) → PS X (.Assign [.Name x px] (.ListComp elt [⟨tg, i2, fs, 0⟩] scope pos) spos) (tAsg (lE X.K cl F (.lc own t it cd e)) (gName i)) := fun {tt} ht hp => by
              refine PS.mono (ps_setLc ok.x.calm ok.x.nd hi' hyl hsw PI0 B (fun s H C cs fp => show PG _ tg (lG X.K cl.noE t) from sndTg (ok.x.blk s H C cs fp) t _ h3) hp (fun s H C cs fp => show PE _ elt (lE X.K cl.noE F e) from (sndE hF e (ok.x.blk s H C cs fp) _ h7).v) (folded_not (not_t h6))) fun D σ H w => ?_
              unfold tAsg at w ⊢
              rw [ho]
              exact lc_snd hF hs ht w
            split at h8
            · split at h8
              · refine key (tt := tYes) (fun σ H Q w => ?_) fun s H C cs fp => pts_nil
                obtain ⟨m, ρ, S, R, re, w⟩ := w
                obtain ⟨b, eb, w⟩ := up_here (show up X.K cl.noE m H _ (.bl true) S from w) R (.bl true)
                cases eb
                exact w
              · cases h8
            · obtain ⟨h8, h9⟩ := and2 h8
              exact key (fun _ _ _ w => w) fun s H C cs fp => pts_one ((sndE hF cd (ok.x.blk s H C cs fp) _ h8).t h9)
            · cases h8
          · cases h
        | lc2 own t it own1 t1 it1 e =>
          unfold chkE at h
          split at h
          · rename_i y tg i2 tg1 i1 scope2 pos2 eq
            cases eq
            obtain ⟨hABC, hD⟩ := and2 h
            obtain ⟨hA, hB, h7⟩ := and3 hABC
            obtain ⟨h1, h3, h4⟩ := and3 hA
            obtain ⟨h5, h6⟩ := and2 hB
            obtain ⟨hD1, hD2⟩ := and2 hD
            obtain ⟨k3, k4, k5⟩ := and3 hD1
            obtain ⟨k6, k7⟩ := and2 hD2
            have B : BlkOk X.N X.env.scope scope (ownP c.N own) := by
              rw [ok.x.N, ok.x.sc]
              exact blkOk_by h1
            have hs : ∀ j ∈ t.slots, j ∈ own := fun j hj => by simpa using List.all_eq_true.mp h4 j hj
            have hs1 : ∀ j ∈ t1.slots, j ∈ own1 := fun j hj => by simpa using List.all_eq_true.mp k4 j hj
            have ho : (ownP c.N own).map (·.2) = own := by
              unfold ownP
              rw [List.map_map]
              exact List.map_id' own
            have hv : ∀ j ∈ own1, j ∈ (ownP c.N own).map (·.2) := fun j hj => by
              rw [ho]
              simpa using List.all_eq_true.mp k5 j hj
            refine PS.mono (ps_setLc2 ok.x.calm ok.x.nd hi' hyl hsw (sndIt hF it ok.x (tg := tg) _ h5) B hv (fun s H C cs fp => show PG _ tg (lG X.K cl.noE t) from sndTg (ok.x.blk s H C cs fp) t _ h3) (fun s H C cs fp => pts_nil) (fun s H C cs fp => show PI _ tg1 i1 (lI X.K cl.noE F it1) from sndIt hF it1 (ok.x.blk s H C cs fp) (tg := tg1) _ k6) (fun s H C cs fp => show PG _ tg1 (lG X.K cl.noE t1) from sndTg (ok.x.blk s H C cs fp) t1 _ k3) (fun s H C cs fp => pts_nil) (fun s H C cs fp => show PE _ elt (lE X.K cl.noE F e) from (sndE hF e (ok.x.blk s H C cs fp) _ h7).v) (folded_not (not_t h6)) (fun env v => folded_not (not_t k7) v)) fun D σ H w => ?_
            unfold tAsg at w ⊢
            rw [ho]
            exact lc2_snd hF hs hs1 w
          · cases h
        | _ => first | (cases h; done) | (unfold chkE at h; (repeat' split at h) <;> first | (cases h; done) | contradiction)
    | DictComp kx vx gs scope pos =>
      have hsw := used_eqD (kx := kx) (vx := vx) (gs := gs) (scope := scope) (pos := pos) (py := px) (y := x) (l := spos.line) hk
      cases hu : usedB X.env.scope scope x px pos with
      | false => rw [hu] at hsw; exact plain hsw
      | true =>
        rw [hu] at hsw
        have hyl := used_local hu
        cases e with
        | bad => exact ⟨fun pins s σ H D I ⟨_, _, _, _, _, h⟩ => h.elim⟩
        | dc own t it k e =>
          unfold chkE at h
          split at h
          · rename_i z y tg i2 scope2 pos2 eq
            cases eq
            obtain ⟨h1, h7, h8⟩ := and3 h
            obtain ⟨h1, h5, h6⟩ := and3 h1
            obtain ⟨h1, h3, h4⟩ := and3 (show ((_ && _) && _) = true from h1)
            have B : BlkOk X.N X.env.scope scope (ownP c.N own) := by
              rw [ok.x.N, ok.x.sc]
              exact blkOk_by h1
            have hs : ∀ j ∈ t.slots, j ∈ own := fun j hj => by simpa using List.all_eq_true.mp h4 j hj
            have ho : (ownP c.N own).map (·.2) = own := by
              unfold ownP
              rw [List.map_map]
              exact List.map_id' own
            have PI0 := sndIt hF it ok.x (tg := tg) _ h5
            refine PS.mono (ps_setDc ok.x.calm ok.x.nd hi' hyl hsw PI0 B (fun s H C cs fp => show PG _ tg (lG X.K cl.noE t) from sndTg (ok.x.blk s H C cs fp) t _ h3) (fun s H C cs fp => pts_nil) (fun s H C cs fp => show PE _ kx (lE X.K cl.noE F k) from (sndE hF k (ok.x.blk s H C cs fp) _ h7).v) (fun s H C cs fp => show PE _ vx (lE X.K cl.noE F e) from (sndE hF e (ok.x.blk s H C cs fp) _ h8).v) (folded_not (not_t h6))) fun D σ H w => ?_
            unfold tAsg at w ⊢
            rw [ho]
            exact dc_snd hF hs w
          · cases h
        | _ => first | (cases h; done) | (unfold chkE at h; (repeat' split at h) <;> first | (cases h; done) | contradiction)
    | SetComp _ _ _ _ =>
      cases e with
      | bad => exact ⟨fun pins s σ H D I ⟨_, _, _, _, _, h⟩ => h.elim⟩
      | _ => first | (cases h; done) | (unfold chkE at h; (repeat' split at h) <;> first | (cases h; done) | contradiction)
    | _ => exact absurd rfl hcmp
def rIop (K : Fg) (cl : Cl) (op : Operator) : TIp := fun x y H Q => ∃ m S dx dy, RS K cl m H S ∧ RD K m H dx x ∧ RD K m H dy y ∧ iop op dx dy S (up K cl m H Q)
theorem iop_snd (op : Operator) : PIp X op (rIop X.K cl op) := by
  intro pins s σ H x y v u Q I rx ry ⟨m, S, dx, dy, R, r1, r2, h⟩
  unfold iop at h
  split at h
  · split at h
    · cases r1
      cases r2
      exact ip_add pins s σ H _ _ v u Q I rx ry ⟨_, _, rfl, rfl, up_here h R (.int _)⟩
    · split at h
      · rename_i l k g1 g2
        cases r1 with
        | ref h1 =>
          cases r2 with
          | ref h2 =>
            obtain ⟨vs, a1, q1⟩ := R.at_ _ _ _ h1 g1
            obtain ⟨us, a2, q2⟩ := R.at_ _ _ _ h2 g2
            have hl := lim_le
            have := q1.length
            have := q2.length
            have := h.1
            refine iop_ext pins s σ H _ _ v u Q I rx ry ⟨_, _, vs, us, rfl, rfl, a1, a2, by omega, ?_⟩
            exact h.2 _ _ _ (le_set a1 trivial) (R.set h1 a1 trivial ⟨_, upd_same, (q1.append q2).mono (le_set a1 trivial)⟩) (.ref h1)
      · exact h.elim
    · exact h.elim
  · split at h
    · cases r1
      cases r2
      exact ip_sub pins s σ H _ _ v u Q I rx ry ⟨_, _, rfl, rfl, up_here h R (.int _)⟩
    · exact h.elim
  · exact h.elim
theorem swaps_attr {v o : Expr} {f : Str} {p : Pos} {l : Nat} {env : PySem.Env} : swapsWith v (some (.Attribute o f p)) l env = pure false := by
  cases v <;> rfl
theorem putF_eq (f : Str) (v : V) (gs : List (Str × V)) {K : Fg} {m : List Addr} {H : Hp} {fs : List (Str × D)} {d : D} (r : KR K m H fs gs) (rd : RD K m H d v) : KR K m H (Mn.putF f d fs) (L2.putF f v gs) := by
  induction r with
  | nil => exact .cons rd .nil
  | @cons k d' v' l kvs r q ih =>
    unfold Mn.putF L2.putF
    split
    · exact .cons rd q
    · exact .cons r ih
theorem setAt_go {K : Fg} {m : List Addr} {H : Hp} {S : Store} {k : Nat} {f : Str} {o d : D} {v w : V} {Q : Store → Prop} (R : RS K cl m H S) (r1 : RD K m H o v) (r2 : RD K m H d w) (h : setAt k f o d S Q) :
    ∃ a C dx gs, v = .ref a ∧ H a = some (.ins C dx gs) ∧ cl k = some C ∧ gs.length < 1000 ∧ Le m H m (upd H a (.ins C dx (L2.putF f w gs))) ∧ ∃ S', RS K cl m (upd H a (.ins C dx (L2.putF f w gs))) S' ∧ Q S' := by
  unfold setAt at h
  split at h
  · split at h
    · rename_i n c' fs g
      obtain ⟨ec, hl, q⟩ := h
      subst ec
      cases r1 with
      | ref hm =>
        obtain ⟨C, dx, gs, hc, h1, qr⟩ := R.at_ _ _ _ hm g
        have := qr.length
        exact ⟨_, C, dx, gs, rfl, h1, hc, by omega, le_set h1 trivial, S.set _ (.ins _ (Mn.putF f d fs)), R.set hm h1 trivial ⟨C, dx, _, hc, upd_same, (putF_eq f w gs qr r2).mono (le_set h1 trivial)⟩, q⟩
    · exact h.elim
  · exact h.elim
def gAtt (to : TE) (t : V → V → Hp → (Hp → Prop) → Prop) : TG := fun v σ H Q => to σ H fun o H1 => t o v H1 fun H2 => Q σ H2
def sAtt (K : Fg) (f : Str) : V → V → Hp → (Hp → Prop) → Prop := fun x y H Q => ∃ a C dx fs, x = .ref a ∧ H a = some (.ins C dx fs) ∧ Cls K C ∧ NoAttr K C f ∧ fs.length < 1000 ∧ Q (upd H a (.ins C dx (L2.putF f y fs)))
theorem pg_att {o : Expr} {f : Str} {pos : Pos} {to : TE} (ho : PE X o to) : PG X (.Attribute o f pos) (gAtt to (sAtt X.K f)) := by
  refine ⟨fun pins s σ H v u Q I r h => ?_⟩
  rw [show assign (.Attribute o f pos) X.env u = (do
      let ov ← holding [u] (eval o X.env)
      standAt pos.atName
      holding [u, ov] (setAttr ov f u)
      release [u, ov] []) from rfl]
  refine wpAny_bind (wpAny_holding (thn (ho.run pins s σ H _ I h) fun ov s1 ⟨x, H1, I1, r1, a, C, dx, fs, ex, ea, c, n, l, q1⟩ => ?_))
  subst ex
  obtain rfl : ov = Value.ref a := r1
  refine wpAny_bind (wpAny_standAt (wpAny_bind (wpAny_holding (setattr_ok I1 ea c n l r fun s2 I2 => ?_))))
  exact wpAny_release ⟨σ, _, I2, q1⟩
def lGm (F : Sem) (K : Fg) (cl : Cl) (ts : List Tm) : TGs := fun vs σ H Q => ∃ m ρ S ds nx, RS K cl m H S ∧ RE K m H ρ σ ∧ RDs K m H ds vs ∧ wpTms F ts ds nx ρ S (upX K cl) ∧ ∀ m' ρ' S' H' σ', Le m H m' H' → RS K cl m' H' S' → RE K m' H' ρ' σ' → nx ρ' S' → Q σ' H'
theorem tms_star : ∀ {ts : List Tm} {xs : List Expr}, chkTms c ts xs = true → ∀ x ∈ xs, starred x = false
  | [], xs, h => by
    cases xs with
    | nil => intro x hx; cases hx
    | cons _ _ => cases h
  | .tg t :: ts, xs, h => by
    cases xs with
    | nil => cases h
    | cons y ys =>
      obtain ⟨h1, h2⟩ := and2 (show (chkTg c t y && chkTms c ts ys) = true from h)
      intro x hx
      rcases List.mem_cons.mp hx with rfl | hx
      · exact tg_star h1
      · exact tms_star h2 x hx
  | .sub o i :: ts, xs, h => by
    unfold chkTms at h
    split at h
    · obtain ⟨_, h2⟩ := and2 h
      intro x hx
      rcases List.mem_cons.mp hx with rfl | hx
      · rfl
      · exact tms_star h2 x hx
    · cases h
  | .att k o f :: ts, xs, h => by
    unfold chkTms at h
    split at h
    · obtain ⟨_, h2⟩ := and2 h
      intro x hx
      rcases List.mem_cons.mp hx with rfl | hx
      · rfl
      · exact tms_star h2 x hx
    · cases h
theorem tms_len : ∀ {ts : List Tm} {xs : List Expr}, chkTms c ts xs = true → ts.length = xs.length
  | [], xs, h => by
    cases xs with
    | nil => rfl
    | cons _ _ => cases h
  | .tg t :: ts, xs, h => by
    cases xs with
    | nil => cases h
    | cons y ys =>
      obtain ⟨h1, h2⟩ := and2 (show (chkTg c t y && chkTms c ts ys) = true from h)
      rw [List.length_cons, List.length_cons, tms_len h2]
  | .sub o i :: ts, xs, h => by
    unfold chkTms at h
    split at h
    · obtain ⟨_, h2⟩ := and2 h
      rw [List.length_cons, List.length_cons, tms_len h2]
    · cases h
  | .att k o f :: ts, xs, h => by
    unfold chkTms at h
    split at h
    · obtain ⟨_, h2⟩ := and2 h
      rw [List.length_cons, List.length_cons, tms_len h2]
    · cases h
theorem sndTms (hF : SemMono F) (ok : XOk c cl F X) : ∀ (ts : List Tm) (xs : List Expr), chkTms c ts xs = true → PGs X xs (lGm F X.K cl ts)
  | [], xs, h => by
    cases xs with
    | cons _ _ => cases h
    | nil =>
      refine PGs.mono pgs_nil fun vs σ H Q q => ?_
      obtain ⟨m, ρ, S, ds, nx, R, re, rd, w, k⟩ := q
      cases rd with
      | nil => exact ⟨rfl, k m ρ S H σ (Le.refl m H) R re w⟩
      | cons _ _ => exact w.elim
  | .tg t :: ts, xs, h => by
    cases xs with
    | nil => cases h
    | cons x xs =>
      obtain ⟨h1, h2⟩ := and2 (show (chkTg c t x && chkTms c ts xs) = true from h)
      refine PGs.mono (pgs_cons (sndTg ok t _ h1) (sndTms hF ok ts _ h2) (each_cons (tg_star h1))) fun vs σ H Q q => ?_
      obtain ⟨m, ρ, S, ds, nx, R, re, rd, w, k⟩ := q
      cases rd with
      | nil => exact w.elim
      | cons r1 r2 =>
        unfold wpTms at w
        dsimp only at w
        split at w
        · rename_i ρ1 e1
          exact ⟨_, _, rfl, lG_go R re r1 e1 fun m1 H1 σ1 le1 R1 re1 _ => ⟨m1, ρ1, S, _, nx, R1, re1, r2.mono le1, w, fun m' ρ' S' H' σ' le' R' re' z => k m' ρ' S' H' σ' (le1.trans le') R' re' z⟩⟩
        · exact w.elim
  | .sub o i :: ts, xs, h => by
    unfold chkTms at h
    split at h
    · obtain ⟨h123, h4⟩ := and2 h
      obtain ⟨h1, h2, h3⟩ := and3 h123
      have O := (sndE hF o ok _ h1).v
      have I := (sndE hF i ok _ h2).v
      refine PGs.mono (pgs_cons (pg_sub O I (set_snd (cl := cl) ok.units) (assign_sub (not_t h3))) (sndTms hF ok ts _ h4) rfl) fun vs σ H Q q => ?_
      obtain ⟨m, ρ, S, ds, nx, R, re, rd, w, k⟩ := q
      cases rd with
      | nil => exact w.elim
      | @cons d _ _ _ r1 r2 =>
        refine ⟨_, _, rfl, le_step hF o R re w fun d2 S2 m2 H2 v2 q2 le2 R2 rd2 re2 => le_step hF i R2 re2 q2 fun d3 S3 m3 H3 v3 q3 le3 R3 rd3 re3 => ?_⟩
        refine ⟨m3, S3, d2, d3, d, R3, rd2.mono le3, rd3, r1.mono (le2.trans le3), setIx_mono (fun S4 z H4 le4 R4 => ?_) q3⟩
        exact ⟨m3, ρ, S4, _, nx, R4, re3.mono le4, r2.mono ((le2.trans le3).trans le4), z, fun m' ρ' S' H' σ' le' R' re' z => k m' ρ' S' H' σ' (((le2.trans le3).trans le4).trans le') R' re' z⟩
    · cases h
  | .att kk o f :: ts, xs, h => by
    unfold chkTms at h
    split at h
    · obtain ⟨h123, h4⟩ := and2 h
      obtain ⟨h1, h2, h3⟩ := and3 h123
      have en := of_decide_eq_true h1
      subst en
      obtain ⟨q0, hq, h5⟩ := List.any_eq_true.mp h3
      obtain ⟨k1, k2⟩ := and2 h5
      obtain ⟨qk, qf⟩ := q0
      have e1 := of_decide_eq_true k1
      have e2 := of_decide_eq_true k2
      dsimp only at e1 e2
      subst e1 e2
      obtain ⟨C, hC, hc, hno⟩ := ok.flds _ _ hq
      have O := (sndE hF o ok _ h2).v
      refine PGs.mono (pgs_cons (pg_att O) (sndTms hF ok ts _ h4) rfl) fun vs σ H Q q => ?_
      obtain ⟨m, ρ, S, ds, nx, R, re, rd, w, k⟩ := q
      cases rd with
      | nil => exact w.elim
      | @cons d _ _ _ r1 r2 =>
        refine ⟨_, _, rfl, le_step hF o R re w fun d2 S2 m2 H2 v2 q2 le2 R2 rd2 re2 => ?_⟩
        obtain ⟨a, C', dx, gs, ev, h1', hcl, hlen, l3, S3, R3, q3⟩ := setAt_go R2 rd2 (r1.mono le2) q2
        rw [hC] at hcl
        cases hcl
        exact ⟨a, C, dx, gs, ev, h1', hc, hno, hlen, m2, ρ, S3, _, nx, R3, re2.mono l3, r2.mono (le2.trans l3), q3, fun m' ρ' S' H' σ' le' R' re' z => k m' ρ' S' H' σ' ((le2.trans l3).trans le') R' re' z⟩
    · cases h
mutual
theorem sndC (hF : SemMono F) (ok : SOk c cl F X) : ∀ (a : C) (s : Stmt), chkC c a s = true → PS X s (LS X.K cl (wpC F a))
  | .bad, s, _ => ⟨fun pins s σ H D I ⟨_, _, _, _, _, h⟩ => h.elim⟩
  | .raise k, s, h => by
    unfold chkC at h
    split at h
    · obtain ⟨h1, h2, h3⟩ := and3 h
      obtain ⟨q, hq, h4⟩ := List.any_eq_true.mp h3
      obtain ⟨k1, k2⟩ := and2 h4
      obtain ⟨qx, qk⟩ := q
      have e1 := of_decide_eq_true k1
      have e2 := of_decide_eq_true k2
      dsimp only at e1 e2
      subst e1 e2
      obtain ⟨C, hC, hm, hx⟩ := ok.x.excs _ _ hq
      unfold excB at hx
      obtain ⟨hx, x3, x4⟩ := and3 hx
      obtain ⟨x1, x2⟩ := and2 hx
      refine PS.mono (ps_raise ok.x.calm ok.tk (pmk_own PySem.F.excBase_ValueError x1 hm x2 (raises_own (of_decide_eq_true x3) (of_decide_eq_true x4)) (by show X.env.scope.names.lookup _ = _; rw [ok.x.sc]; exact gl_of h1) (hdb := (okN_of h2).1))) fun D σ H w => ?_
      obtain ⟨m, ρ, S, R, re, w⟩ := w
      exact w m H C R hC
    · cases h
  | .star i j e, s, h => by
    unfold chkC at h
    split at h
    · obtain ⟨h, a6, a7⟩ := and3 h
      obtain ⟨h, a4, a5⟩ := and3 h
      obtain ⟨a1, a2, a3⟩ := and3 h
      have A := (sndE hF e ok.x _ a5).v
      refine PS.mono (ps_asg A (pg_star (i := i) (j := j) ok.x.calm ok.x.nd (by rw [ok.x.N]; exact of_decide_eq_true a1) (by rw [ok.x.N]; exact of_decide_eq_true a2) (by rw [ok.x.sc]; exact loc_of a3) (by rw [ok.x.sc]; exact loc_of a4) (.inl (ok.x.tg ok.blk _)) (.inl (ok.x.tg ok.blk _))) (sole_not (not_t a6)) (swap_none a7) rfl) fun D σ H q => ?_
      obtain ⟨m, ρ, S, R, re, q⟩ := q
      refine le_step hF e R re q fun d S1 m1 H1 v q le R1 rd re1 => ?_
      split at q
      · cases rd with
        | tup ht qt =>
          cases qt with
          | cons r0 rs =>
            refine ⟨_, _, _, rfl, ht, fun p np => ?_⟩
            exact q _ _ _ (le.trans (le_push np)) (R1.pushL np rs) (((re1.mono (le_push np)).set (r0.mono (le_push np)) i).set (.ref (R1.last p)) j)
      · exact q.elim
    · cases h
  | .unp i j e, s, h => by
    unfold chkC at h
    split at h
    · obtain ⟨h, a6, a7⟩ := and3 h
      obtain ⟨h, a4, a5⟩ := and3 h
      obtain ⟨a1, a2, a3⟩ := and3 h
      have A := (sndE hF e ok.x _ a5).v
      refine PS.mono (ps_asg A (pg_unl (n := 2) ok.x.calm (pgs_cons (pg_name (i := i) ok.x.nd (by rw [ok.x.N]; exact of_decide_eq_true a1) (by rw [ok.x.sc]; exact loc_of a3) (.inl (ok.x.tg ok.blk _))) (pgs_cons (pg_name (i := j) ok.x.nd (by rw [ok.x.N]; exact of_decide_eq_true a2) (by rw [ok.x.sc]; exact loc_of a4) (.inl (ok.x.tg ok.blk _))) pgs_nil))) (sole_not (not_t a6)) (swap_none a7) rfl) fun D σ H q => ?_
      obtain ⟨m, ρ, S, R, re, q⟩ := q
      refine le_step hF e R re q fun d S1 m1 H1 v q le R1 rd re1 => ?_
      split at q
      · rename_i a b e1
        obtain ⟨p, vs, rfl, hq, qs⟩ := rd.lq R1 e1
        cases qs with
        | cons r0 rs =>
          cases rs with
          | cons r1 rs =>
            cases rs
            exact ⟨_, _, rfl, hq, rfl, _, _, rfl, _, _, rfl, ⟨rfl, q _ _ _ le R1 ((re1.set r0 i).set r1 j)⟩⟩
      · exact q.elim
    · cases h
  | .augX _ _ _ _, s, h => by cases h
  | .pass, s, h => by
    unfold chkC at h
    split at h
    · exact PS.mono ps_pass fun D σ H ⟨m, ρ, S, R, re, q⟩ => q m σ H (Le.refl m H) R re
    · cases h
  | .set i e, s, h => by
    unfold chkC at h
    split at h
    · obtain ⟨h123, h4⟩ := and2 h
      obtain ⟨h1, h2, h3⟩ := and3 h123
      refine PS.mono (set_any hF ok (i := i) (of_decide_eq_true h1) h2 h3 h4) fun D σ H q => ?_
      obtain ⟨m, ρ, S, R, re, q⟩ := q
      refine le_step hF e R re q fun d S1 m1 H1 v q le R1 rd re1 => ?_
      exact q m1 _ H1 le R1 (re1.set rd i)
    · cases h
  | .asg t e, s, h => by
    unfold chkC at h
    split at h
    · obtain ⟨h123, h4⟩ := and2 h
      obtain ⟨h1, h2, h3⟩ := and3 h123
      have A := (sndE hF e ok.x _ h2).v
      refine PS.mono (ps_asg A (sndTg ok.x t _ h1) (sole_not (not_t h3)) (swap_or ok.x.sc h4) rfl) fun D σ H q => ?_
      obtain ⟨m, ρ, S, R, re, q⟩ := q
      refine le_step hF e R re q fun d S1 m1 H1 v q le R1 rd re1 => ?_
      split at q
      · rename_i ρ1 e1
        exact lG_go R1 re1 rd e1 fun m2 H2 σ2 le2 R2 re2 _ => q m2 σ2 H2 (le.trans le2) R2 re2
      · exact q.elim
    · cases h
  | .asgm ts e, s, h => by
    unfold chkC at h
    split at h
    · obtain ⟨h123, h4⟩ := and2 h
      obtain ⟨h1, h2, h3⟩ := and3 h123
      have A := (sndE hF e ok.x _ h2).v
      refine PS.mono (ps_asg A (pg_tup (n := _) ok.x.calm (sndTms hF ok.x ts _ h1) each_len (each_star (tms_star h1))) (sole_not (not_t h3)) (swap_none h4) rfl) fun D σ H q => ?_
      obtain ⟨m, ρ, S, R, re, q⟩ := q
      refine le_step hF e R re q fun d S1 m1 H1 v q le R1 rd re1 => ?_
      split at q
      · cases rd with
        | tup ht qt => exact ⟨_, _, rfl, ht, by rw [← qt.length, q.1, tms_len h1], m1, ρ, S1, _, _, R1, re1, qt, q.2, fun m' ρ' S' H' σ' le' R' re' w => w m' σ' H' (le.trans le') R' re'⟩
      · exact q.elim
    · cases h
  | .par i j a b, s, h => by
    unfold chkC at h
    split at h
    · obtain ⟨h, a14⟩ := and2 h
      obtain ⟨h, a12, a13⟩ := and3 h
      obtain ⟨h, a10, a11⟩ := and3 h
      obtain ⟨h, a8, a9⟩ := and3 h
      obtain ⟨h, a6, a7⟩ := and3 h
      obtain ⟨h, a4, a5⟩ := and3 h
      obtain ⟨a1, a2, a3⟩ := and3 h
      have A := (sndE hF a ok.x _ a13).v
      have B := (sndE hF b ok.x _ a14).v
      have hx := of_decide_eq_true a5
      have hy := of_decide_eq_true a6
      rw [← ok.x.sc] at hx hy
      have hk : X.env.scope.kind = .function := by rw [ok.x.sc]; exact fn_of a8
      refine PS.mono (ps_par (i := i) (j := j) ok.x.calm ok.x.nd (by rw [ok.x.N]; exact of_decide_eq_true a1) (by rw [ok.x.N]; exact of_decide_eq_true a2) (of_decide_eq_true a3) hx hy (pa_cons A (pa_cons B pa_nil (star_not (not_t a10))) (star_not (not_t a9)))
        (swap_two hk hx hy a7 (of_decide_eq_true a4) (not_t a9) (not_t a10) (not_t a11) (not_t a12)) rfl) fun D σ H q => ?_
      obtain ⟨m, ρ, S, R, re, q⟩ := q
      refine le_step hF a R re q fun d S1 m1 H1 v q le R1 rd re1 => le_step hF b R1 re1 q fun d2 S2 m2 H2 v2 q2 le2 R2 rd2 re2 => ?_
      exact ⟨v, v2, rfl, q2 m2 _ H2 (le.trans le2) R2 ((re2.set (rd.mono le2) i).set rd2 j)⟩
    · cases h
  | .setA k o f e, s, h => by
    unfold chkC at h
    split at h
    · obtain ⟨h123, h4⟩ := and2 h
      obtain ⟨h1, h2, h3⟩ := and3 h123
      have en := of_decide_eq_true h1
      subst en
      obtain ⟨q, hq, h5⟩ := List.any_eq_true.mp h4
      obtain ⟨k1, k2⟩ := and2 h5
      obtain ⟨qk, qf⟩ := q
      have e1 := of_decide_eq_true k1
      have e2 := of_decide_eq_true k2
      dsimp only at e1 e2
      subst e1 e2
      obtain ⟨C, hC, hc, hno⟩ := ok.x.flds _ _ hq
      have O := (sndE hF o ok.x _ h2).v
      have A := (sndE hF e ok.x _ h3).v
      refine PS.mono (ps_fld O A swaps_attr) fun D σ H q => ?_
      obtain ⟨m, ρ, S, R, re, q⟩ := q
      refine le_step hF e R re q fun d S1 m1 H1 v q le R1 rd re1 => le_step hF o R1 re1 q fun d2 S2 m2 H2 v2 q2 le2 R2 rd2 re2 => ?_
      obtain ⟨a, C', dx, gs, ev, h1, hcl, hlen, l3, S3, R3, q3⟩ := setAt_go R2 rd2 (rd.mono le2) q2
      rw [hC] at hcl
      cases hcl
      exact ⟨a, C, dx, gs, ev, h1, hc, hno, hlen, q3 m2 σ _ ((le.trans le2).trans l3) R3 (re2.mono l3)⟩
    · cases h
  | .aug i op e, s, h => by
    unfold chkC at h
    split at h
    · obtain ⟨h123, h4⟩ := and2 h
      obtain ⟨h1, h2, h3⟩ := and3 h123
      have en := of_decide_eq_true h3
      subst en
      have A := (sndE hF e ok.x _ h4).v
      refine PS.mono (ps_aug (i := i) ok.x.nd (by rw [ok.x.N]; exact of_decide_eq_true h1) (by rw [ok.x.sc]; exact loc_of h2) A (iop_snd (cl := cl) op) (.inl (ok.x.tg ok.blk _))) fun D σ H q => ?_
      obtain ⟨m, ρ, S, R, re, q⟩ := q
      replace q : (match ρ[i]? with | some (some x) => wpE F e ρ S (fun y S1 => iop op x y S1 fun z S2 => (upE X.K cl m H D).nx (ρ.set i (some z)) S2) (upX X.K cl) | _ => False) := q
      split at q
      · rename_i d ed
        obtain ⟨v, ev, rd⟩ := re.at_ i d ed
        refine ⟨v, ev, le_step hF e R re q fun d2 S1 m1 H1 v2 q le R1 rd2 re1 => ?_⟩
        exact ⟨m1, S1, d, d2, R1, rd.mono le, rd2, iop_mono (fun z S2 w m2 H2 v3 le2 R2 rd3 => w m2 _ H2 (le.trans le2) R2 ((re1.mono le2).set rd3 i)) q⟩
      · exact q.elim
    · cases h
  | .augA k o f op e, s, h => by
    unfold chkC at h
    split at h
    · obtain ⟨h1234, h4, h5⟩ := and3 h
      obtain ⟨h1, h2, h3⟩ := and3 h1234
      have en := of_decide_eq_true h1
      have eo := of_decide_eq_true h2
      subst en eo
      obtain ⟨q, hq, h6⟩ := List.any_eq_true.mp h5
      obtain ⟨k1, k2⟩ := and2 h6
      obtain ⟨qk, qf⟩ := q
      have e1 := of_decide_eq_true k1
      have e2 := of_decide_eq_true k2
      dsimp only at e1 e2
      subst e1 e2
      obtain ⟨C, hC, hc, hno⟩ := ok.x.flds _ _ hq
      have O := (sndE hF o ok.x _ h3).v
      have A := (sndE hF e ok.x _ h4).v
      refine PS.mono (ps_fldaug O A (iop_snd (cl := cl) op)) fun D σ H q => ?_
      obtain ⟨m, ρ, S, R, re, q⟩ := q
      refine le_step hF o R re q fun d S1 m1 H1 v q le R1 rd re1 => ?_
      split at q
      · rename_i c' fs e0
        split at q
        · rename_i w ew
          obtain ⟨ec, q9⟩ := q
          subst ec
          obtain ⟨nn, a, C', dx, gs, rfl, hm, rfl, g, hcl, h1, qr⟩ := rd.ins R1 e0
          rw [hC] at hcl
          cases hcl
          rcases qr.lookup qf with ⟨d, v, l1, l2, l3⟩ | ⟨l1, l2⟩
          · rw [l1] at ew
            cases ew
            refine ⟨a, C, dx, gs, v, rfl, h1, hc, hno, l2, le_step hF e R1 re1 q9 fun d2 S2 m2 H2 v2 q2 le2 R2 rd2 re2 => ?_⟩
            refine ⟨m2, S2, _, d2, R2, l3.mono le2, rd2, iop_mono (fun z S3 w m3 H3 v3 le3 R3 rd3 => ?_) q2⟩
            obtain ⟨a', C', dx', gs', ev, h1', hcl', hlen, l4, S4, R4, q3⟩ := setAt_go R3 (rd.mono (le2.trans le3)) rd3 w
            cases ev
            rw [hC] at hcl'
            cases hcl'
            exact ⟨dx', gs', h1', hlen, q3 m3 σ _ (((le.trans le2).trans le3).trans l4) R4 ((re2.mono le3).mono l4)⟩
          · rw [l1] at ew; cases ew
        · exact q.elim
      · exact q.elim
    · cases h
  | .setIx o i e, s, h => by
    unfold chkC at h
    split at h
    · obtain ⟨h123, h4, h5⟩ := and3 h
      obtain ⟨h1, h2, h3⟩ := and3 h123
      have O := (sndE hF o ok.x _ h1).v
      have I := (sndE hF i ok.x _ h2).v
      have A := (sndE hF e ok.x _ h3).v
      refine PS.mono (ps_asg A (pg_sub O I (set_snd (cl := cl) ok.x.units) (assign_sub (not_t h4))) (sole_not (not_t h5)) rfl rfl) fun D σ H q => ?_
      obtain ⟨m, ρ, S, R, re, q⟩ := q
      refine le_step hF e R re q fun d S1 m1 H1 v q le R1 rd re1 => le_step hF o R1 re1 q fun d2 S2 m2 H2 v2 q2 le2 R2 rd2 re2 => le_step hF i R2 re2 q2 fun d3 S3 m3 H3 v3 q3 le3 R3 rd3 re3 => ?_
      refine ⟨m3, S3, d2, d3, d, R3, rd2.mono le3, rd3, rd.mono (le2.trans le3), setIx_mono (fun S4 z H4 le4 R4 => ?_) q3⟩
      exact z m3 σ H4 (((le.trans le2).trans le3).trans le4) R4 (re3.mono le4)
    · cases h
  | .setP o a b e, s, h => by
    unfold chkC at h
    split at h
    · obtain ⟨h12345, h6, h7⟩ := and3 h
      obtain ⟨h123, h4, h5⟩ := and3 h12345
      obtain ⟨h1, h2, h3⟩ := and3 h123
      have O := (sndE hF o ok.x _ h1).v
      have A := (sndE hF a ok.x _ h2).v
      have B := (sndE hF b ok.x _ h4).v
      have V := (sndE hF e ok.x _ h6).v
      refine PS.mono (ps_asg V (pg_sub O (pe_tup (pa_cons A (pa_cons B pa_nil (star_not (not_t h5))) (star_not (not_t h3)))) (setP_snd ok.x.units) (assign_sub rfl)) (sole_not (not_t h7)) rfl rfl) fun D σ H q => ?_
      obtain ⟨m, ρ, S, R, re, q⟩ := q
      refine le_step hF e R re q fun d S1 m1 H1 v q le R1 rd re1 => le_step hF o R1 re1 q fun d2 S2 m2 H2 v2 q2 le2 R2 rd2 re2 => le_step hF a R2 re2 q2 fun d3 S3 m3 H3 v3 q3 le3 R3 rd3 re3 => le_step hF b R3 re3 q3 fun d4 S4 m4 H4 v4 q4 le4 R4 rd4 re4 => ?_
      refine ⟨by show 2 ≤ sizeLine; decide, fun p np => ?_⟩
      unfold pSet at q4
      split at q4
      · rename_i pr k e1 e2
        obtain ⟨n, l⟩ := pr
        obtain ⟨rfl, g⟩ := dtp_some e1
        have ek := keys2_some (rd3.mono le4) rd4 e2
        have rdo := rd2.mono (le3.trans le4)
        cases rdo with
        | @ref _ a0 hm =>
          obtain ⟨kvs, h1, qk⟩ := R4.at_ _ _ _ hm g
          have R5 := R4.new (u := .tup [v3, v4]) np
          have h1' : (upd H4 p (.tup [v3, v4])) a0 = some (.dT kvs) := by rw [upd_ne (ne_of_none h1 np)]; exact h1
          have hl := lim_le
          have hq := qk.length
          have q41 := q4.1
          dsimp only at q41
          refine ⟨_, p, kvs, k, rfl, rfl, h1', by rw [upd_same, ek], by omega, ?_⟩
          have l5 := (le_new (m := m4) (u := .tup [v3, v4]) np)
          have rv := rd.mono ((((le2.trans le3).trans le4).trans l5))
          have l6 : Le m4 (upd H4 p (.tup [v3, v4])) m4 (upd (upd H4 p (.tup [v3, v4])) a0 (.dT (putK kvs k v))) := le_set (u := .dT (putK kvs k v)) h1' trivial
          have R6 := R5.set (o := .dtp (pPut l k d)) hm h1' trivial ⟨_, upd_same, ((qk.mono l5).pPut rv).mono l6⟩
          exact q4.2 m4 σ _ (((((le.trans le2).trans le3).trans le4).trans l5).trans l6) R6 ((re4.mono l5).mono l6)
      · exact q4.elim
    · cases h
  | .ret e, s, h => by
    unfold chkC at h
    split at h
    · have A := (sndE hF e ok.x _ h).v
      refine PS.mono (ps_ret A) fun D σ H q => ?_
      obtain ⟨m, ρ, S, R, re, q⟩ := q
      exact ⟨m, ρ, S, R, re, q⟩
    · split at h
      · refine PS.mono ps_retN fun D σ H q => ?_
        obtain ⟨m, ρ, S, R, re, q⟩ := q
        exact q m H .non (Le.refl m H) R .non
      · cases h
    · cases h
  | .ex e, s, h => by
    unfold chkC at h
    split at h
    · obtain ⟨h1, h2⟩ := and2 h
      have A := (sndE hF e ok.x _ h1).v
      refine PS.mono (ps_expr A (swaps_not (not_t h2))) fun D σ H q => ?_
      obtain ⟨m, ρ, S, R, re, q⟩ := q
      refine le_step hF e R re q fun d S1 m1 H1 v q le R1 rd re1 => ?_
      exact q m1 σ H1 le R1 re1
    · cases h
  | .cond t a b, s, h => by
    unfold chkC at h
    split at h
    · obtain ⟨h123, h4⟩ := and2 h
      obtain ⟨h1, h2, h3⟩ := and3 h123
      have T := (sndE hF t ok.x _ h1).t h2
      have A := sndCs hF ok a _ h3
      have B := sndCs hF ok b _ h4
      refine PS.mono (ps_if T A B) fun D σ H q => ?_
      obtain ⟨m, ρ, S, R, re, q⟩ := q
      refine le_step hF t R re q fun d S1 m1 H1 v q le R1 rd re1 => ?_
      split at q
      · exact ⟨true, bl_of rd, (if_pos rfl).mpr ⟨m1, ρ, S1, R1, re1, wpCs_mono hF a (upE_le le) q⟩⟩
      · exact ⟨false, bl_of rd, (if_neg Bool.false_ne_true).mpr ⟨m1, ρ, S1, R1, re1, wpCs_mono hF b (upE_le le) q⟩⟩
      · exact q.elim
    · cases h
  | .whl t b, s, h => by
    unfold chkC at h
    split at h
    · obtain ⟨h1, h2, h3⟩ := and3 h
      exact PS.mono (ps_while ok.own ((sndE hF t ok.x _ h1).t h2) (sndCs hF ok b _ h3)) fun D σ H q => whl_snd hF (fun _ _ _ z => z) q
    · cases h
  | .for_ t it b, s, h => by
    unfold chkC at h
    split at h
    · obtain ⟨h123, h4⟩ := and2 h
      obtain ⟨h1, h2, h3⟩ := and3 h123
      exact PS.mono (ps_for ok.own ok.x.calm (sndIt hF it ok.x _ h2) (sndTg ok.x t _ h1) (sndCs hF ok b _ h3) (folded_not (not_t h4))) fun D σ H q => for_snd hF (fun _ _ _ z => z) q
    · cases h
theorem sndCs (hF : SemMono F) (ok : SOk c cl F X) : ∀ (a : Cs) (ss : List Stmt), chkCs c a ss = true → PSs X ss (LS X.K cl (wpCs F a))
  | .nil, ss, h => by
    cases ss with
    | nil => exact PSs.mono pss_nil fun D σ H ⟨m, ρ, S, R, re, q⟩ => q m σ H (Le.refl m H) R re
    | cons _ _ => cases h
  | .cons a b, ss, h => by
    cases ss with
    | nil => cases h
    | cons s ss =>
      obtain ⟨h1, h2⟩ := and2 (show (chkC c a s && chkCs c b ss) = true from h)
      have A := sndC hF ok a _ h1
      have B := sndCs hF ok b _ h2
      refine PSs.mono (pss_cons A B) fun D σ H q => ?_
      obtain ⟨m, ρ, S, R, re, q⟩ := q
      refine ⟨m, ρ, S, R, re, wpC_mono hF a (K := { upE X.K cl m H D with nx := fun ρ1 S1 => wpCs F b (upE X.K cl m H D) ρ1 S1 }) ⟨?_, fun _ _ z => z, fun _ _ z => z, fun _ _ z => z, fun _ _ z => z⟩ q⟩
      exact fun ρ1 S1 h1 m1 σ1 H1 le1 R1 re1 => ⟨m1, ρ1, S1, R1, re1, wpCs_mono hF b (upE_le le1) h1⟩
  | .doors dl dr t ws e1 e2 e3 b r, ss, h => by
    unfold chkCs at h
    split at h
    · rename_i p hp
      obtain ⟨h1, h2⟩ := and2 h
      obtain ⟨ys, rs⟩ := p
      exact doors_snd hF ok hp (sndCs hF ok b _ h1) (sndCs hF ok r _ h2)
    · cases h
end
end
end Mn
namespace Mn
open PySem PySem.Spec PyProof.Rows L2
structure Ent where
  x : Str
  f : Nat
  N : List Str
  ps : List Str
  kw : Option (Str × D)
  me : Option (Str × Nat × Str)
  d : He.DefD
  lam : Bool := false
  k3 : Option (Str × Str × Str × D) := none
structure Csts where
  l : List (Str × D)
  g : List (Str × List (Str × Int))
structure Glb (K : Fg) (w : World) (mg : Str → Option Value) (cl : Ca) (ct : Csts) (free : List Str) (flds : List (Nat × Str)) (excs : List (Str × Nat)) : Prop where
  csts : ∀ x d, (x, d) ∈ ct.l → ∃ u v, mg x = some u ∧ RelV v u ∧ ∀ m H, RD K m H d v
  gds : ∀ x kvs, (x, kvs) ∈ ct.g → ∃ p, mg x = some (.ref p) ∧ ∀ z i, kvs.lookup z = some i → KDct K w p z (.int i)
  free : ∀ x ∈ free, mg x = none
  flds : ∀ k f, (k, f) ∈ flds → ∃ C, cl k = some C ∧ Cls K C ∧ NoAttr K C f
  excs : ∀ x k, (x, k) ∈ excs → ∃ C, cl k = some C ∧ mg x = some (.ref C) ∧ excB K C = true
def fnsOf (tab : List Ent) : List Fe := tab.filterMap fun e => match e.k3 with
  | some _ => none
  | none => match e.me with
    | none => some ⟨e.x, e.f, e.ps.length, e.kw⟩
    | some _ => none
def mtsOf (tab : List Ent) : List (Nat × Str × Nat × Nat) := tab.filterMap fun e => match e.k3 with
  | some _ => none
  | none => match e.me with
    | some (_, k, m) => if m = "__init__" then none else some (k, m, e.f, e.ps.length)
    | none => none
def mtkOf (tab : List Ent) : List Mtk := tab.filterMap fun e => match e.k3 with
  | none => none
  | some (n1, n2, n3, d) => match e.me with
    | some (_, k, m) => if m = "__init__" then none else some ⟨k, m, e.f, e.ps.length - 3, n1, n2, n3, d⟩
    | none => none
def lensOf (tab : List Ent) : List (Nat × Nat) := tab.filterMap fun e => match e.k3 with
  | some _ => none
  | none => match e.me with
    | some (_, k, m) => if m = "__len__" ∧ e.ps.length = 1 then some (k, e.f) else none
    | none => none
def mksOf (tab : List Ent) : List (Str × Nat × Nat × Nat) := tab.filterMap fun e => match e.k3 with
  | some _ => none
  | none => match e.me with
    | some (x, k, m) => if m = "__init__" then some (x, k, e.f, e.ps.length) else none
    | none => none
def cxOfE (tab : List Ent) (csts : Csts) (free : List Str) (flds : List (Nat × Str)) (excs : List (Str × Nat)) (tld : Option (Str × List (Nat × Str))) (lam : Bool) (N : List Str) (sc : Scope) : Cxt := ⟨N, sc, false, fnsOf tab, flds, mtsOf tab, mksOf tab, csts.l, csts.g, free, excs, if lam then tld else none, lam, mtkOf tab, lensOf tab⟩
def scopeB (N ps : List Str) (sc : Scope) : Bool :=
  (match sc.kind with | .function => true | _ => false) && !sc.isCoroutine && !sc.isGenerator && decide N.Nodup && decide (N.take ps.length = ps) && ps.all (fun x => locB sc x) && sc.names.all fun y => !decide (y.2 = .free)
theorem scope_of {N ps : List Str} {sc : Scope} (h : scopeB N ps sc = true) : FnScope N ps sc := by
  unfold scopeB at h
  obtain ⟨h5, h6, h7⟩ := and3 h
  obtain ⟨h3, h4, h5⟩ := and3 h5
  obtain ⟨h1, h2, h3⟩ := and3 h3
  refine ⟨?_, not_t h2, not_t h3, of_decide_eq_true h4, of_decide_eq_true h5, fun x hx => ?_, fun y hy => ?_⟩
  · split at h1
    · assumption
    · cases h1
  · have := List.all_eq_true.mp h6 x hx
    exact loc_of this
  · have := not_t (List.all_eq_true.mp h7 y hy)
    exact of_decide_eq_false this
structure EntOk (K : Fg) (mg : Str → Option Value) (cl : Ca) (PP : Prog) (tab : List Ent) (csts : Csts) (free : List Str) (flds : List (Nat × Str)) (excs : List (Str × Nat)) (tld : Option (Str × List (Nat × Str))) (e : Ent) (fd : FuncData) : Prop where
  fn : FunD K e.d.name e.d.qual e.d.params e.d.body e.d.scope (e.d.dvs K) (e.d.kws K) (He.fAd K e.d.at_) fd
  mgx : e.me = none → mg e.x = some (.ref (He.fAd K e.d.at_))
  me : ∀ x k m, e.me = some (x, k, m) → e.kw = none ∧ ∃ C, cl k = some C ∧ Cls K C ∧ (m ≠ "__init__" → Meth K C m (He.fAd K e.d.at_)) ∧ (m = "__init__" → Mk K C (He.fAd K e.d.at_) ∧ mg x = some (.ref C))
  bind : e.k3 = none → match e.kw with
    | none => Binds K fd e.ps []
    | some q => (∃ dv ds, Vals [dv] ds ∧ Binds K fd e.ps ds ∧ ∀ m H, RD K m H q.2 dv) ∧ KBn K fd e.ps (e.ps.length - 1) [q.1] (fun us ws => us ++ ws) (fun vs zs => vs ++ zs)
  kw3 : ∀ n1 n2 n3 d, e.k3 = some (n1, n2, n3, d) → 3 ≤ e.ps.length ∧ ∃ dv gg gh, (∀ m H, RD K m H d dv) ∧ KBn K fd e.ps (e.ps.length - 3) [n1, n3] gg (fun vs zs => vs ++ arr3 [dv] zs) ∧ KBn K fd e.ps (e.ps.length - 3) [n1, n2, n3] gh (fun vs zs => vs ++ zs)
  sc : scopeB e.N e.ps e.d.scope = true
  body : ∃ g, PP e.f = some g ∧ g.np = e.ps.length ∧ g.n = e.N.length ∧ chkCs (cxOfE tab csts free flds excs tld e.lam e.N e.d.scope) g.body e.d.body = true
theorem re_start {K : Fg} {m : List Addr} {H : Hp} {ds : List D} {vs : List V} (r : RDs K m H ds vs) (n : Nat) : RE K m H (ds.map some ++ List.replicate (n - ds.length) none) (vs.map some ++ List.replicate (n - vs.length) none) := by
  have hl := r.length
  refine ⟨by simp [hl], fun i d e => ?_⟩
  by_cases hi : i < ds.length
  · rw [List.getElem?_append_left (by simpa using hi), List.getElem?_map] at e
    cases q : ds[i]? with
    | none => rw [q] at e; cases e
    | some d' =>
      rw [q] at e
      cases e
      obtain ⟨v, hv, rv⟩ := r.get q
      refine ⟨v, ?_, rv⟩
      rw [List.getElem?_append_left (by rw [List.length_map, ← hl]; exact hi), List.getElem?_map, hv]
      rfl
  · rw [List.getElem?_append_right (by simpa using hi)] at e
    have := List.mem_of_getElem? e
    rw [List.mem_replicate] at this
    cases this.2
def TldG (K : Fg) (mg : Str → Option Value) (cl : Ca) (y : Str) (ws : List (Nat × Str)) : Prop :=
  ∃ (a : Str) (g : Addr) (pg : Arguments) (bg : List Stmt) (sg : Scope) (dV kV doc pm cdv ct oc : Value) (an od : Option Addr) (osl : Array (Option Value)) (Ng : List Str),
    mg y = some (.ref g) ∧ PySem.W.keepIn K (.ref g) = true ∧ K.lookup g = some ⟨oc, od, .func (PySem.W.fnOf y y pg bg sg dV kV doc pm an cdv ct), osl⟩ ∧ PySem.W.codeIn K cdv y = true ∧
    Binds K (PySem.W.fnOf y y pg bg sg dV kV doc pm an cdv ct) [a] [] ∧ FnScope Ng [a] sg ∧ Ng[0]? = some a ∧ Vis sg a ∧ (a == ("__debug__" : Str)) = false ∧ (a == ("__classdict__" : Str)) = false ∧
    ∀ (X : Cx) (q : Str), X.K = K → X.mg = mg → Room 2 X.A → LamX.GivesTo X Ng y sg g cdv bg a q (TTel cl ws)
def LamG (K : Fg) (mg : Str → Option Value) (base : Heap) (cl : Ca) (tab : List Ent) : Prop :=
  ∀ e ∈ tab, e.lam = true → LamX.TabB base mg (He.cT K e.d.at_).1 (He.cT K e.d.at_).2 ∧ ((He.cT K e.d.at_).2, e.d.qual ++ ".<locals>." ++ "<lambda>") ∈ cl.T ∧ ∀ p ∈ cl.T, p.1 = (He.cT K e.d.at_).2 → p.2 = e.d.qual ++ ".<locals>." ++ "<lambda>"
theorem FnOk.weak {P : Program} {w : World} {K : Fg} {mg : Str → Option Value} {base : Heap} {CX : CXT} {j k : Nat} {f : Addr} {fd : FuncData} {ps : List Str} {sp sp' : Sp} (F : FnOk P w K mg base CX j f fd ps sp) (h : j ≤ k) (i : ∀ vs H Q E, sp' vs H Q E → sp vs H Q E) : FnOk P w K mg base CX k f fd ps sp' :=
  ⟨fun vs H Q E z => F.len vs H Q E (i _ _ _ _ z), fun A outer s H args us vs Q E hr h0 hb hv z => F.run A outer s H args us vs Q E (hr.mono h) h0 hb hv (i _ _ _ _ z)⟩
theorem tld_at {P : Program} {w : World} {K : Fg} {mg : Str → Option Value} {base : Heap} {cl : Ca} {F : Sem} {c : Cxt} {y : Str} {ws : List (Nat × Str)} {CX : CXT} {N : List Str} {qual : Str} {scope : Scope} {f c0 P0 : Addr} {A : Around} {outer : List PySem.Env} {s : Shared} {H : Hp} {E : L2.XK} {k : Nat} (t : TldG K mg cl y ws)
    (l1 : LamX.TabB base mg c0 P0) (l2 : (P0, qual ++ ".<locals>." ++ "<lambda>") ∈ cl.T) (l3 : ∀ p ∈ cl.T, p.1 = P0 → p.2 = qual ++ ".<locals>." ++ "<lambda>") (hr : Room (k + 2) (A.deeper (envOfC qual scope s.heap.objs.size f (.ref c0)))) (hk : 40 ≤ k)
    (low : ∀ (A2 : Around) (outer2 : List PySem.Env) (s2 : Shared) (H2 : Hp) (E2 : L2.XK) (scope2 : Scope) (f2 c2 : Addr), Room k (A2.deeper (LamX.lamEnv (cxOf CX P w K mg base N qual scope f (.ref c0) A outer s H E) scope2 s2.heap.objs.size f2 c2)) →
      (∀ p ∈ c.fns, FnAt cl F (LamX.lamCx (cxOf CX P w K mg base N qual scope f (.ref c0) A outer s H E) A2 outer2 s2 H2 E2 scope2 f2 c2) p.x (p.f + 1000000) p.ar p.kw) ∧ ∀ j m f1 ar, (j, m, f1, ar) ∈ c.mts → MtAt cl F (LamX.lamCx (cxOf CX P w K mg base N qual scope f (.ref c0) A outer s H E) A2 outer2 s2 H2 E2 scope2 f2 c2) j m (f1 + 1000000) ar) :
    TldAt cl F (cxOf CX P w K mg base N qual scope f (.ref c0) A outer s H E) c y ws := by
  obtain ⟨a, gt, pg, bg, sg, dV, kV, doc, pm, cdvt, ct, oc, an, od, osl, Ng, t1, t2, t3, t4, t5, t6, t7, t8, t9, t10, gives⟩ := t
  have gv := gives (cxOf CX P w K mg base N qual scope f (.ref c0) A outer s H E) (qual ++ ".<locals>." ++ "<lambda>") rfl rfl (hr.mono (by omega))
  exact ⟨k, a, gt, c0, P0, pg, bg, sg, dV, kV, doc, pm, cdvt, ct, oc, an, od, osl, Ng, t1, t2, t3, t4, t5, t6, t7, t8, gv, l1, rfl, l2, l3, hr, t9, t10, hk, low⟩
theorem fn_two {P : Program} {w : World} {K : Fg} {mg : Str → Option Value} {base : Heap} {cl : Ca} {PP : Prog} {tab : List Ent} {csts : Csts} {free : List Str} {flds : List (Nat × Str)} {excs : List (Str × Nat)} {tld : Option (Str × List (Nat × Str))} (G : Glb K w mg cl csts free flds excs) (hT : ∀ e ∈ tab, ∃ fd, EntOk K mg cl PP tab csts free flds excs tld e fd)
    (hlo : ∀ f, PP (f + 1000000) = none) (htl : ∀ y ws, tld = some (y, ws) → TldG K mg cl y ws) (hL : LamG K mg base cl tab) :
    ∀ n, (∀ e ∈ tab, ∀ fd, EntOk K mg cl PP tab csts free flds excs tld e fd → FnOk P w K mg base (L2.CX P w) (2 * n + 41) (He.fAd K e.d.at_) fd e.ps (spOf K cl (callN PP n) e.f e.ps.length)) ∧
      ∀ e ∈ tab, ∀ fd, EntOk K mg cl PP tab csts free flds excs tld e fd → FnOk P w K mg base (L2.CX P w) (2 * n + 40) (He.fAd K e.d.at_) fd e.ps (spOf K cl (callN PP n) (e.f + 1000000) e.ps.length)
  | 0 => ⟨fun e he fd ek => ⟨fun vs H Q E ⟨_, _, _, _, _, _, _, _, h, _⟩ => h, fun A outer s H args us vs Q E hr h0 hb hv ⟨_, _, _, _, _, _, _, _, _, h⟩ => h.elim⟩, fun e he fd ek => ⟨fun vs H Q E ⟨_, _, _, _, _, _, _, _, h, _⟩ => h, fun A outer s H args us vs Q E hr h0 hb hv ⟨_, _, _, _, _, _, _, _, _, h⟩ => h.elim⟩⟩
  | n + 1 => by
    obtain ⟨ih, ihl⟩ := fn_two (P := P) (w := w) (base := base) (cl := cl) G hT hlo htl hL n
    refine ⟨fun e he fd ek => ?_, fun e he fd ek => FnOk.weak (ih e he fd ek) (by omega) fun vs H Q E ⟨cl', e1, e2, m, S, ds, R, rd, hl, h⟩ => ⟨cl', e1, e2, m, S, ds, R, rd, hl, ?_⟩⟩
    rotate_left
    · unfold callN at h
      rw [hlo, if_pos (by omega), Nat.add_sub_cancel] at h
      exact h
    have FS := scope_of ek.sc
    obtain ⟨oc0, od0, dV0, kV0, doc0, pm0, an0, cdv, ct0, osl0, rfl, lk0, hcd0, _, _⟩ := ek.fn.ex
    refine L2.fn_of (k := 2 * n + 42) lk0 hcd0 FS (fun vs H Q E ⟨_, _, _, _, _, _, _, _, h, _⟩ => h) fun A outer s H vs Q E hr ⟨cl', hcl, hE, m, S, ds, R, rd, hl, h⟩ => ?_
    obtain ⟨g, hg, e1, e2, hc⟩ := ek.body
    unfold callN at h
    rw [hg] at h
    obtain ⟨h1, h2⟩ := h
    subst hcl hE
    refine ⟨LS K cl' (wpCs (callN PP n) g.body), ?_, m, startE g ds, S, R, ?_, ?_⟩
    · have TK : Takes (cxOf (L2.CX P w) P w K mg base e.N e.d.qual e.d.scope (He.fAd K e.d.at_) cdv A outer s H cl'.E) (fun cls d _ H => cl'.E cls d H) := takes_of rfl rfl rfl rfl
      have hr0 : Room (2 * n + 41) (A.deeper (envOfC e.d.qual e.d.scope s.heap.objs.size (He.fAd K e.d.at_) cdv)) := hr.mono (by omega)
      refine sndCs (callN_mono PP n) (X := cxOf (L2.CX P w) P w K mg base e.N e.d.qual e.d.scope (He.fAd K e.d.at_) cdv A outer s H cl'.E) ⟨⟨rfl, FS.nd, rfl, rfl, ?_, fun _ _ => rfl, ?_, G.flds, ?_, ?_, G.csts, G.gds, G.free, passes_call TK fun _ _ _ _ z => z, G.excs, ?_, ?_, ?_, ?_⟩, rfl, passes_of rfl, TK⟩ g.body _ hc
      · have := hr.un
        show (A.deeper _).units + 650 < cLine
        omega
      · intro p hp
        obtain ⟨e', he', ex⟩ := List.mem_filterMap.mp hp
        cases hk3 : e'.k3 with
        | some q => rw [hk3] at ex; cases ex
        | none =>
        rw [hk3] at ex
        dsimp only at ex
        cases hme : e'.me with
        | some q => rw [hme] at ex; cases ex
        | none =>
          rw [hme] at ex
          cases ex
          obtain ⟨fd', ek'⟩ := hT e' he'
          exact ⟨2 * n + 41, He.fAd K e'.d.at_, fd', e'.ps, ih e' he' fd' ek', hr0, ek'.mgx hme, ek'.fn.kp, ek'.bind hk3⟩
      · intro k m f ar hp
        obtain ⟨e', he', ex⟩ := List.mem_filterMap.mp hp
        cases hk3 : e'.k3 with
        | some q => rw [hk3] at ex; cases ex
        | none =>
        rw [hk3] at ex
        dsimp only at ex
        cases hme : e'.me with
        | none => rw [hme] at ex; cases ex
        | some q =>
          obtain ⟨x, k', m'⟩ := q
          rw [hme] at ex
          dsimp only at ex
          split at ex
          · cases ex
          · rename_i hne
            cases ex
            obtain ⟨fd', ek'⟩ := hT e' he'
            obtain ⟨hkw, C, hC, hcl, hmt, _⟩ := ek'.me _ _ _ hme
            have hb := ek'.bind hk3
            rw [hkw] at hb
            exact ⟨C, 2 * n + 41, He.fAd K e'.d.at_, fd', e'.ps, hC, hcl, hmt hne, ih e' he' fd' ek', hr0, hb⟩
      · intro x k f ar hp
        obtain ⟨e', he', ex⟩ := List.mem_filterMap.mp hp
        cases hk3 : e'.k3 with
        | some q => rw [hk3] at ex; cases ex
        | none =>
        rw [hk3] at ex
        dsimp only at ex
        cases hme : e'.me with
        | none => rw [hme] at ex; cases ex
        | some q =>
          obtain ⟨x', k', m'⟩ := q
          rw [hme] at ex
          dsimp only at ex
          split at ex
          · rename_i heq
            cases ex
            obtain ⟨fd', ek'⟩ := hT e' he'
            obtain ⟨hkw, C, hC, hcl, _, hmk⟩ := ek'.me _ _ _ hme
            have hb := ek'.bind hk3
            rw [hkw] at hb
            exact ⟨C, 2 * n + 41, He.fAd K e'.d.at_, fd', e'.ps, hC, (hmk heq).1, (hmk heq).2, ih e' he' fd' ek', hr, hb⟩
          · cases ex
      · intro y ws hy
        have hy : (if e.lam then tld else none) = some (y, ws) := hy
        cases hlam : e.lam with
        | false =>
          rw [hlam] at hy
          cases hy
        | true =>
          rw [hlam] at hy
          obtain ⟨l1, l2, l3⟩ := hL e he hlam
          obtain ⟨c0, rfl⟩ := He.codeIn_ref hcd0
          have ec : (He.cT K e.d.at_).1 = c0 := He.codeOf_eq lk0 rfl
          rw [ec] at l1
          refine tld_at (cl := cl'.at_) (k := 2 * n + 40) (qual := e.d.qual) (htl y ws hy) l1 l2 l3 hr (by omega) fun A2 outer2 s2 H2 E2 scope2 f2 c2 hr3 => ⟨fun p hp => ?_, fun j mm f1 ar hp => ?_⟩
          · obtain ⟨e', he', ex⟩ := List.mem_filterMap.mp hp
            cases hk3 : e'.k3 with
            | some q => rw [hk3] at ex; cases ex
            | none =>
            rw [hk3] at ex
            dsimp only at ex
            cases hme : e'.me with
            | some q => rw [hme] at ex; cases ex
            | none =>
              rw [hme] at ex
              cases ex
              obtain ⟨fd', ek'⟩ := hT e' he'
              exact ⟨2 * n + 40, He.fAd K e'.d.at_, fd', e'.ps, ihl e' he' fd' ek', hr3, ek'.mgx hme, ek'.fn.kp, ek'.bind hk3⟩
          · obtain ⟨e', he', ex⟩ := List.mem_filterMap.mp hp
            cases hk3 : e'.k3 with
            | some q => rw [hk3] at ex; cases ex
            | none =>
            rw [hk3] at ex
            dsimp only at ex
            cases hme : e'.me with
            | none => rw [hme] at ex; cases ex
            | some q =>
              obtain ⟨x, k', m'⟩ := q
              rw [hme] at ex
              dsimp only at ex
              split at ex
              · cases ex
              · rename_i hne
                cases ex
                obtain ⟨fd', ek'⟩ := hT e' he'
                obtain ⟨hkw, C, hC, hcl, hmt, _⟩ := ek'.me _ _ _ hme
                have hb := ek'.bind hk3
                rw [hkw] at hb
                exact ⟨C, 2 * n + 40, He.fAd K e'.d.at_, fd', e'.ps, hC, hcl, hmt hne, ihl e' he' fd' ek', hr3, hb⟩
      · intro hl
        have hl : e.lam = true := hl
        obtain ⟨l1, l2, l3⟩ := hL e he hl
        obtain ⟨c0, rfl⟩ := He.codeIn_ref hcd0
        have ec : (He.cT K e.d.at_).1 = c0 := He.codeOf_eq lk0 rfl
        rw [ec] at l1
        exact ⟨c0, _, l1, rfl, l2, l3, hr0.mono (by omega)⟩
      · intro p hp
        obtain ⟨e', he', ex⟩ := List.mem_filterMap.mp hp
        cases hk3 : e'.k3 with
        | none => rw [hk3] at ex; cases ex
        | some q =>
          obtain ⟨n1, n2, n3, d⟩ := q
          rw [hk3] at ex
          dsimp only at ex
          cases hme : e'.me with
          | none => rw [hme] at ex; cases ex
          | some q =>
            obtain ⟨x, k', m'⟩ := q
            rw [hme] at ex
            dsimp only at ex
            split at ex
            · cases ex
            · rename_i hne
              cases ex
              obtain ⟨fd', ek'⟩ := hT e' he'
              obtain ⟨hkw, C, hC, hcl, hmt, _⟩ := ek'.me _ _ _ hme
              obtain ⟨h3, dv, gg, gh, b1, b2, b3⟩ := ek'.kw3 _ _ _ _ hk3
              have hln : e'.ps.length - 3 + 3 = e'.ps.length := by omega
              refine ⟨C, 2 * n + 41, He.fAd K e'.d.at_, fd', e'.ps, dv, gg, gh, hC, hcl, hmt hne, ?_, hr0, ek'.fn.kp, b1, b2, b3⟩
              show FnOk _ _ _ _ _ _ _ _ _ _ (spOf K cl'.at_ (callN PP n) e'.f (e'.ps.length - 3 + 3))
              rw [hln]
              exact ih e' he' fd' ek'
      · intro k f hp
        obtain ⟨e', he', ex⟩ := List.mem_filterMap.mp hp
        cases hk3 : e'.k3 with
        | some q => rw [hk3] at ex; cases ex
        | none =>
        rw [hk3] at ex
        dsimp only at ex
        cases hme : e'.me with
        | none => rw [hme] at ex; cases ex
        | some q =>
          obtain ⟨x, k', m'⟩ := q
          rw [hme] at ex
          dsimp only at ex
          split at ex
          · rename_i hlen
            obtain ⟨hm', hl1⟩ := hlen
            subst hm'
            cases ex
            obtain ⟨fd', ek'⟩ := hT e' he'
            obtain ⟨hkw, C, hC, hcl, hmt, _⟩ := ek'.me _ _ _ hme
            have hb := ek'.bind hk3
            rw [hkw] at hb
            have q := ih e' he' fd' ek'
            rw [hl1] at q
            exact ⟨C, 2 * n + 41, He.fAd K e'.d.at_, fd', e'.ps, hC, hcl, hmt (by decide), q, hr, hb⟩
          · cases ex
    · unfold startE L2.start
      rw [e2]
      exact re_start rd _
    · refine wpCs_mono (callN_mono PP n) _ (K := rtEnds (up K cl' m H Q) (upX K cl')) ⟨?_, fun _ _ z => z, ?_, ?_, fun _ _ z => z⟩ h2
      · exact fun ρ S h m' σ' H' le R' re' => h m' H' .non le R' .non
      · exact fun _ _ z => z.elim
      · exact fun _ _ z => z.elim
theorem pers_only {K : Fg} {H : Hp} {a : Addr} {ns : List Int} (hO : Only H) (hS : SqL K H a (ns.map V.int)) : PersL K H a (ns.map V.int) := by
  rcases hS with (h | ⟨o, h⟩) | h
  · rcases hO a with z | ⟨o, xs, z⟩
    · rw [z] at h; cases h
    · rw [z] at h; cases h
  · exact .inl ⟨o, h⟩
  · exact .inr h
theorem law_sp {K : Fg} {cl : Ca} {F : Sem} {f : Nat} {H : Hp} {a : Addr} {ns : List Int} (hT : LamX.Tabs cl.T H) (hp : PersL K H a (ns.map V.int)) (h : F f [.fl (ns.map D.int)] [] (fun d _ => d = .bl true) noX) (hF : SemMono F) :
    spOf K cl F f 1 [.ref a] H (fun v _ => v = .bl true) fun _ _ _ => False := by
  have hr : ∀ ns : List Int, RDs K [] H (ns.map D.int) (ns.map V.int) := fun ns => by
    induction ns with
    | nil => exact .nil
    | cons n ns ih => exact .cons (.int n) ih
  refine ⟨⟨cl, fun _ _ => True, fun _ _ _ _ _ _ => trivial, fun _ _ _ => False⟩, rfl, rfl, [], [], [.fl (ns.map D.int)], ⟨rfl, fun i j a h => by simp at h, fun n a o h => by simp at h, trivial, hT⟩, .cons (.fl hp (hr ns)) .nil, rfl, hF _ _ _ _ _ _ _ (fun d S q m' H' v le R' rd => ?_) (fun _ _ z => z.elim) h⟩
  subst q
  exact bl_of rd
end Mn
namespace Mn
open PySem PySem.Spec PyProof.Rows L2
def toDv : D → He.Dv
  | .bl b => .bl b
  | .int i => .int i
  | .str x => .str x
  | _ => .non
def scalB : D → Bool
  | .non => true | .bl _ => true | .int _ => true | .str _ => true | _ => false
def cstOk (K : Fg) (x : Str) : D → Bool
  | .int i => (He.Fa.int x i).ok K
  | .str s => (He.Fa.str x s).ok K
  | .tup l => l.all scalB && (He.Fa.glo x).ok K && He.tupB K x (l.map toDv)
  | _ => false
theorem rds_scal {K : Fg} {m : List Addr} {H : Hp} : ∀ {l : List D}, l.all scalB = true → RDs K m H l ((l.map toDv).map (He.Dv.v K))
  | [], _ => .nil
  | d :: l, h => by
    rw [List.all_cons, Bool.and_eq_true] at h
    refine .cons ?_ (rds_scal h.2)
    cases d <;> first | (cases h.1; done) | constructor
theorem cst_ok {K : Fg} {h : Heap} {mg : Str → Option Value} (X : K.In h) (G : h.Ns mainGlobals mg) {x : Str} {d : D} (c : cstOk K x d = true) : ∃ u v, mg x = some u ∧ RelV v u ∧ ∀ m H, RD K m H d v := by
  cases d with
  | int i =>
    obtain ⟨t, e⟩ := He.int_ok X G (x := x) (i := i) c
    exact ⟨_, .int i, e, ⟨t, rfl⟩, fun m H => .int i⟩
  | str s =>
    obtain ⟨t, e⟩ := He.str_ok X G (x := x) (z := s) c
    exact ⟨_, .str s, e, ⟨t, rfl⟩, fun m H => .str s⟩
  | tup l =>
    obtain ⟨c1, c2, c3⟩ := and3 c
    exact ⟨_, .ref (He.ga K x), He.glo_ok X G c2, rfl, fun m H => .tup (He.tupB_ok c3 H) (rds_scal c1)⟩
  | _ => cases c
def excOk (K : Fg) (x : Str) : Bool := (He.Fa.glo x).ok K && excB K (He.ga K x)
def gdOk (K : Fg) (x : Str) (kvs : List (Str × Int)) : Bool := (He.Fa.glo x).ok K && He.valsB K (He.ga K x) (kvs.map fun q => (q.1, He.Dv.int q.2))
def exB (csts : Csts) (excs : List (Str × Nat)) (K : Fg) : Bool := (csts.l.all fun p => cstOk K p.1 p.2) && (csts.g.all fun p => gdOk K p.1 p.2) && excs.all fun p => excOk K p.1
def clOf (K : Fg) (cs : List Str) (T : List (Addr × Str)) : Ca := ⟨fun k => cs[k]?.map (He.ga K), T⟩
def fldFa (cs : List Str) (flds : List (Nat × Str)) : List He.Fa := flds.flatMap fun p => match cs[p.1]? with
  | some x => [He.Fa.cls x, He.Fa.noat x p.2]
  | none => [He.Fa.free "None"]
theorem lookup_memS {z : Str} {i : Int} : ∀ {kvs : List (Str × Int)}, kvs.lookup z = some i → (z, i) ∈ kvs
  | [], h => by cases h
  | (k, v) :: r, h => by
    rw [List.lookup_cons] at h
    cases e : z == k with
    | true =>
      rw [e] at h
      cases h
      rw [eq_of_beq e]
      exact List.mem_cons_self
    | false =>
      rw [e] at h
      exact List.mem_cons_of_mem _ (lookup_memS h)
theorem glb_of {K : Fg} {w : World} {h : Heap} {mg : Str → Option Value} (X : K.In h) (G : h.Ns mainGlobals mg) {csts : Csts} {free : List Str} {cs : List Str} {flds : List (Nat × Str)} {excs : List (Str × Nat)} {T : List (Addr × Str)} (c : exB csts excs K = true) (he : ∀ p ∈ excs, cs[p.2]? = some p.1) (hf : ∀ x ∈ free, (He.Fa.free x).ok K = true) (hn : ∀ p ∈ flds, p.1 < cs.length) (ha : ∀ f ∈ fldFa cs flds, f.ok K = true) (hk : ∀ p ∈ csts.g, ∃ es n, KDict K w (He.ga K p.1) es n) : Glb K w mg (clOf K cs T) csts free flds excs :=
  ⟨fun x d hx => cst_ok X G (List.all_eq_true.mp (and2 (and2 c).1).1 (x, d) hx), fun x kvs hx => by
    obtain ⟨q1, q2⟩ := and2 (List.all_eq_true.mp (and2 (and2 c).1).2 (x, kvs) hx)
    obtain ⟨es, n, D⟩ := hk _ hx
    refine ⟨He.ga K x, He.glo_ok X G q1, fun z i hz => ?_⟩
    obtain ⟨u, n1, n2⟩ := He.valsB_ok q2 (List.mem_map.mpr ⟨(z, i), lookup_memS hz, rfl⟩)
    exact ⟨es, n, u, D.at_, D.lit, n1, n2⟩, fun x hx => He.free_ok X G (hf x hx), fun k f hk => by
    have hl : k < cs.length := hn _ hk
    have e : cs[k]? = some cs[k] := List.getElem?_eq_getElem hl
    refine ⟨He.ga K cs[k], by show cs[k]?.map (He.ga K) = _; rw [e]; rfl, He.cls_ok (ha _ (List.mem_flatMap.mpr ⟨(k, f), hk, ?_⟩)), He.noat_ok (ha _ (List.mem_flatMap.mpr ⟨(k, f), hk, ?_⟩))⟩
    · dsimp only
      rw [e]
      exact List.mem_cons_self
    · dsimp only
      rw [e]
      exact List.mem_cons_of_mem _ List.mem_cons_self, fun x k hk => by
    obtain ⟨q1, q2⟩ := and2 (List.all_eq_true.mp (and2 c).2 (x, k) hk)
    exact ⟨He.ga K x, by show cs[k]?.map (He.ga K) = _; rw [show cs[k]? = some x from he _ hk]; rfl, He.glo_ok X G q1, q2⟩⟩
def obsM (n : Nat) (fa : List He.Fa) (ex : Fg → Bool) (fn : List He.DefD) (g : Addr → Option Obj) : He.AlD :=
  (ex (He.frG g (He.asD g n)) && (He.obsD fa fn (He.frG g (He.asD g n))).1, (He.obsD fa fn (He.frG g (He.asD g n))).2)
theorem saysM {n : Nat} {fa : List He.Fa} {ex : Fg → Bool} {fn : List He.DefD} {g : Addr → Option Obj} (e : obsM n fa ex fn g = He.valD fn) : ex (He.frG g (He.asD g n)) = true ∧ He.SaysD fa fn (He.frG g (He.asD g n)) := by
  unfold obsM at e
  generalize He.frG g (He.asD g n) = K at e ⊢
  have e1 : (ex K && (He.obsD fa fn K).1) = true := congrArg (fun z : He.AlD => z.1) e
  have e2 : (He.obsD fa fn K).2 = (He.valD fn).2 := by
    have e3 := congrArg (fun z : He.AlD => z.2) e
    exact e3
  obtain ⟨h1, h2⟩ := and2 e1
  exact ⟨h1, Prod.ext h2 e2⟩
def hookM (n : Nat) (fa : List He.Fa) (ex : Fg → Bool) (fn : List He.DefD) : PySem.W.Hook where
  α := He.AlD
  obs := fun s => obsM n fa ex fn s.heap.get?
  val := fun _ => He.valD fn
  says := fun _ h => ∃ K : Fg, K.In h ∧ ex K = true ∧ He.SaysD fa fn K
  of := fun _ _ e => ⟨_, He.frG_in, saysM e⟩
  keeps := fun _ _ _ ⟨K, hK, c⟩ k => ⟨K, PySem.W.Frag.In.keeps hK k, c⟩
theorem obsM_eq {n : Nat} {fa : List He.Fa} {ex : Fg → Bool} {fn : List He.DefD} {g : Addr → Option Obj} {s : Shared} (h : ∀ a, g a = s.heap.get? a) : obsM n fa ex fn g = (hookM n fa ex fn).obs s := by
  have e : g = s.heap.get? := funext h
  rw [e] <;> rfl
theorem fn_to0 {P : Program} {w : World} {K : Fg} {mg : Str → Option Value} {base : Heap} {k : Nat} {f : Addr} {fd : FuncData} {ps : List Str} {sp : Sp} (F : FnOk P w K mg base (L2.CX P w) k f fd ps sp) : FnOk P w K mg base CX0 k f fd ps (fun vs H Q _ => sp vs H Q fun _ _ _ => False) :=
  ⟨fun vs H Q E h => F.len vs H Q _ h, fun A outer s H args us vs Q E hr he hb hv hs => codeAny_mono (F.run A outer s H args us vs Q _ hr he hb hv hs) fun r s' h => by
    cases r with
    | ok fl => cases fl <;> exact h
    | error e =>
      obtain ⟨_, _, _, _, _, _, _, _, _, _, _, _, z⟩ := (show L2.CX P w outer H s (fun _ _ _ => False) e s' from h)
      exact z.elim⟩
theorem law_fn {P : Program} {w : World} {K : Fg} {mg : Str → Option Value} {cl : Ca} {PP : Prog} {tab : List Ent} {csts : Csts} {free : List Str} {flds : List (Nat × Str)} {excs : List (Str × Nat)} {tld : Option (Str × List (Nat × Str))} (G : Glb K w mg cl csts free flds excs) (hT : ∀ e ∈ tab, ∃ fd, EntOk K mg cl PP tab csts free flds excs tld e fd)
    (hlo : ∀ f, PP (f + 1000000) = none) (htl : ∀ y ws, tld = some (y, ws) → TldG K mg cl y ws) (n : Nat) {e : Ent} (he : e ∈ tab) {fd : FuncData} (ek : EntOk K mg cl PP tab csts free flds excs tld e fd)
    (base : Heap) (hL : LamG K mg base cl tab) : FnOk P w K mg base CX0 (2 * n + 41) (He.fAd K e.d.at_) fd e.ps (fun vs H Q _ => spOf K cl (callN PP n) e.f e.ps.length vs H Q fun _ _ _ => False) := fn_to0 ((fn_two G hT hlo htl hL n).1 e he fd ek)
theorem lamG_none {K : Fg} {mg : Str → Option Value} {base : Heap} {cl : Ca} {tab : List Ent} (h : (tab.all fun e => !e.lam) = true) : LamG K mg base cl tab := fun e he hl => by
  have := List.all_eq_true.mp h e he
  rw [hl] at this
  cases this
theorem kw_bind {K : Fg} {name qual : Str} {params : Arguments} {body : List Stmt} {scope : Scope} {f : Addr} {fd : FuncData} {ps : List Str} {nm : Str} {v : V} {d : D} (F : FunD K name qual params body scope [] [(nm, v)] f fd) (n : Nat) (hn : n + 1 = ps.length) (hd : ∀ m H, RD K m H d v)
    (h1 : ∀ (D : Addr) (doc pm : Value) (an : Option Addr) (cdv ct : Value) (us : List Value) (k : Value), us.length = n → KwChain D [(nm, k)] (bindArgs (PySem.W.fnOf name qual params body scope .none (.ref D) doc pm an cdv ct) ⟨us, []⟩) (ps.zip (us ++ [k])))
    (h2 : ∀ (D : Addr) (doc pm : Value) (an : Option Addr) (cdv ct : Value) (us : List Value) (k : Value), us.length = n → bindArgs (PySem.W.fnOf name qual params body scope .none (.ref D) doc pm an cdv ct) ⟨us, [(nm, k)]⟩ = pure (ps.zip (us ++ [k]))) :
    (∃ dv ds, Vals [dv] ds ∧ Binds K fd ps ds ∧ ∀ m H, RD K m H d dv) ∧ KBn K fd ps (ps.length - 1) [nm] (fun us ws => us ++ ws) (fun vs zs => vs ++ zs) := by
  have e1 : ps.length - 1 = n := by omega
  rw [e1]
  refine ⟨?_, ?_⟩
  · obtain ⟨ds, hv, hb⟩ := FunD.binds0 (ps := ps) F n (by simp) (by simpa using hn) fun D doc pm an cdv ct us ks hl hk => by
      match ks, hk with
      | [k], _ => exact h1 D doc pm an cdv ct us k hl
    exact ⟨v, ds, hv, hb, hd⟩
  · obtain ⟨mv, hb⟩ := FunD.kbinds0 (ps := ps) F n [nm] [] (fun a _ c => a ++ c) (by simp) (fun q hq => by cases hq) (fun a _ c => a.append c) fun D doc pm an cdv ct us mv ws hl hm hw => by
      match ws, hw with
      | [k], _ =>
        cases mv with
        | nil => exact h2 D doc pm an cdv ct us k hl
        | cons _ _ => cases hm
    exact hb
end Mn
namespace Mn.Hd
open PySem PySem.Spec PyProof.Rows L2
def tp (i : Nat) : Stmt := PySem.Challenge.pw_heapwright_k35_whole_what_soft_heaps_giv.main.body.getD i (.Pass ⟨0, 0, 0, 0⟩)
def csts : Csts := ⟨[], []⟩
def free : List Str := (["any", "dict", "len", "list", "max", "min", "range", "sorted", "tuple"] : List Str)
def excs : List (Str × Nat) := [("Empty", 1), ("Twice", 2)]
def cs : List Str := (["HeapError", "Empty", "Twice"] : List Str)
def flds : List (Nat × Str) := []
def d_0 : He.DefD := ⟨("want_of", none), "want_of", "want_of", defArgs (tp 5), defBody (tp 5), defScope (tp 5), [], []⟩
def d_1 : He.DefD := ⟨("filled", none), "filled", "filled", defArgs (tp 6), defBody (tp 6), defScope (tp 6), [], []⟩
def d_2 : He.DefD := ⟨("tied", none), "tied", "tied", defArgs (tp 7), defBody (tp 7), defScope (tp 7), [], []⟩
def d_3 : He.DefD := ⟨("tickets_in", none), "tickets_in", "tickets_in", defArgs (tp 8), defBody (tp 8), defScope (tp 8), [], []⟩
def d_4 : He.DefD := ⟨("soft_joined", none), "soft_joined", "soft_joined", defArgs (tp 9), defBody (tp 9), defScope (tp 9), [], [("slack", .int 4)]⟩
def d_5 : He.DefD := ⟨("soft_put", none), "soft_put", "soft_put", defArgs (tp 10), defBody (tp 10), defScope (tp 10), [], [("slack", .int 4)]⟩
def d_6 : He.DefD := ⟨("soft_taken", none), "soft_taken", "soft_taken", defArgs (tp 11), defBody (tp 11), defScope (tp 11), [], [("slack", .int 4)]⟩
def d_7 : He.DefD := ⟨("soft_items", none), "soft_items", "soft_items", defArgs (tp 12), defBody (tp 12), defScope (tp 12), [], []⟩
def d_8 : He.DefD := ⟨("may_slip", none), "may_slip", "may_slip", defArgs (tp 13), defBody (tp 13), defScope (tp 13), [], [("slack", .int 4)]⟩
def d_9 : He.DefD := ⟨("_law_stir", none), "_law_stir", "_law_stir", defArgs (tp 15), defBody (tp 15), defScope (tp 15), [], []⟩
def d_10 : He.DefD := ⟨("_law_source", none), "_law_source", "_law_source", defArgs (tp 16), defBody (tp 16), defScope (tp 16), [], []⟩
def d_11 : He.DefD := ⟨("_law_take", none), "_law_take", "_law_take", defArgs (tp 17), defBody (tp 17), defScope (tp 17), [], []⟩
def d_12 : He.DefD := ⟨("_law_one_of", none), "_law_one_of", "_law_one_of", defArgs (tp 18), defBody (tp 18), defScope (tp 18), [], []⟩
def d_13 : He.DefD := ⟨("law", none), "law", "law", defArgs (tp 19), defBody (tp 19), defScope (tp 19), [], []⟩
def dd : List He.DefD := [d_0, d_1, d_2, d_3, d_4, d_5, d_6, d_7, d_8, d_9, d_10, d_11, d_12, d_13]
def faM : List He.Fa := [.free "None", .free "None", .free "None", .free "None", .free "None", .free "None", .free "None", .free "None", .free "None", .free "None", .free "None", .free "None", .free "None", .free "None"]
def faC : List He.Fa := [.free "None", .free "None", .free "None", .free "None", .free "None", .free "None", .free "None", .free "None", .free "None", .free "None", .free "None", .free "None", .free "None", .free "None"]
def fa : List He.Fa := dd.map (fun d => He.Fa.glo d.at_.1) ++ (free.map He.Fa.free ++ (fldFa cs flds ++ (faM ++ faC))) ++ ([] : List He.Fa)
abbrev RR : PySem.W.OpenRow := PySem.W.OpenLaw.row PySem.Challenge.rw_heapwright_k35_whole_what_soft_heaps_giv
abbrev hk : PySem.W.Hook := hookM 5 fa (exB csts excs) dd
def ob (s : PySem.W.SharedT) : He.AlD := obsM 5 fa (exB csts excs) dd (HandSHeadRun.getT s)
theorem ob_eq (s : PySem.W.SharedT) : ob s = hk.obs s.abs := obsM_eq (HandSHeadRun.getT_eq s)
def loose : List PySem.Str := (["HeapError", "Empty", "Twice", "want_of", "filled", "tied", "tickets_in", "soft_joined", "soft_put", "soft_taken", "soft_items", "may_slip", "_law_stir", "_law_source", "_law_take", "_law_one_of"] : List Str)
theorem run (w : World) : HandSHeadRun.RunEq RR (PySem.W.view RR.prog [19]) hk ob 8000 loose w := by
  intro os
  kernel_rfl
end Mn.Hd
namespace Mn
open PySem
theorem sealN (P : Prog) (n : Nat) : ∃ F : Sem, F = callN P n := ⟨_, rfl⟩
noncomputable def callZ (P : Prog) (n : Nat) : Sem := Classical.choose (sealN P n)
theorem callZ_eq (P : Prog) (n : Nat) : callZ P n = callN P n := Classical.choose_spec (sealN P n)
theorem callZ_mono (P : Prog) (n : Nat) : SemMono (callZ P n) := by
  rw [callZ_eq]
  exact callN_mono P n
theorem of_Z {P : Prog} {n f : Nat} {ds : List D} {S : Store} {Q : DK} {X : XK} (h : callZ P n f ds S Q X) : callN P n f ds S Q X := by
  rw [← callZ_eq]
  exact h
theorem enter {P : Prog} {n f : Nat} {fn : Fn} {ds : List D} {S : Store} {Q : DK} {X : XK} (e : P f = some fn) (hl : ds.length = fn.np) (h : wpCs (callZ P n) fn.body (rtEnds Q X) (startE fn ds) S) : callZ P (n + 1) f ds S Q X := by
  rw [callZ_eq] at *
  show (match P f with | some fn => ds.length = fn.np ∧ wpCs (callN P n) fn.body (rtEnds Q X) (startE fn ds) S | none => _)
  rw [e]
  exact ⟨hl, h⟩
end Mn
namespace Mn
open PySem
theorem bmono {P : Prog} {n : Nat} (b : Cs) : BMono (wpCs (callZ P n) b) := fun K K' ρ S h q => wpCs_mono (callZ_mono P n) b h q
def Fr (s : Nat) (S S' : Store) : Prop := S.length ≤ S'.length ∧ ∀ j, j < S.length → j ≠ s → S'[j]? = S[j]?
theorem Fr.refl (s : Nat) (S : Store) : Fr s S S := ⟨Nat.le_refl _, fun _ _ _ => rfl⟩
theorem Fr.trans {s : Nat} {S S1 S2 : Store} (a : Fr s S S1) (b : Fr s S1 S2) : Fr s S S2 := ⟨Nat.le_trans a.1 b.1, fun j h1 h2 => by rw [b.2 j (Nat.lt_of_lt_of_le h1 a.1) h2, a.2 j h1 h2]⟩
theorem Fr.set {s : Nat} {S : Store} (o : Ob) : Fr s S (S.set s o) := ⟨by rw [List.length_set]; exact Nat.le_refl _, fun j _ h2 => by rw [List.getElem?_set_ne (Ne.symm h2)]⟩
theorem Fr.push {s : Nat} {S : Store} (T : List Ob) : Fr s S (S ++ T) := ⟨by rw [List.length_append]; omega, fun j h1 _ => by rw [List.getElem?_append_left h1]⟩
theorem lst_lt {S : Store} {n : Nat} {l : List D} (h : lst? S n = some l) : n < S.length ∧ S[n]? = some (.lst l) := by
  unfold lst? at h
  split at h
  · rename_i l' g
    cases h
    exact ⟨(List.getElem?_eq_some_iff.mp g).1, g⟩
  · cases h
theorem lst_of {S : Store} {n : Nat} {l : List D} (h : S[n]? = some (.lst l)) : lst? S n = some l := by
  unfold lst?
  rw [h]
theorem Fr.lst {s n : Nat} {S S' : Store} {l : List D} (f : Fr s S S') (h : lst? S n = some l) (hn : n ≠ s) : lst? S' n = some l := by
  obtain ⟨h1, h2⟩ := lst_lt h
  exact lst_of (by rw [f.2 n h1 hn]; exact h2)
theorem Sm.of_le {i : Int} (h1 : -(10 ^ 60) ≤ i) (h2 : i ≤ 10 ^ 60) : Sm i := by
  unfold Sm
  have : i.natAbs ≤ 10 ^ 60 := by omega
  exact Nat.lt_of_le_of_lt this (by decide +kernel)
theorem Sm.of_nat {i : Int} {a : Nat} (h : i.natAbs < 2 ^ a) (ha : a ≤ 4000) : Sm i := Nat.lt_of_lt_of_le h (Nat.pow_le_pow_right (by decide) ha)
end Mn
namespace Mn
open PySem
abbrev f_want_of : Nat := 0
abbrev f_filled : Nat := 1
abbrev f_tied : Nat := 2
abbrev f_tickets_in : Nat := 3
abbrev f_soft_joined : Nat := 4
abbrev f_soft_put : Nat := 5
abbrev f_soft_taken : Nat := 6
abbrev f_soft_items : Nat := 7
abbrev f_may_slip : Nat := 8
abbrev f_law_stir : Nat := 9
abbrev f_law_source : Nat := 10
abbrev f_law_take : Nat := 11
abbrev f_law_one_of : Nat := 12
abbrev f_law : Nat := 13
abbrev x_Empty : Nat := 1
abbrev x_Twice : Nat := 2
def k_want_of_2 : Cs := .cons (.ret (.v 2)) .nil
def k_want_of_1a0 : Cs := .cons (.set 2 (.bin .FloorDiv (.bin .Add (.bin .Mult (.cst (.int 3)) (.v 2)) (.cst (.int 1))) (.cst (.int 2)))) .nil
def k_want_of_1 : Cs := .cons (.for_ (.nm 3) (.rng (.cst (.int 0)) (.bin .Sub (.v 0) (.v 1))) k_want_of_1a0) k_want_of_2
def k_want_of_0 : Cs := .cons (.set 2 (.cst (.int 1))) k_want_of_1
def b_want_of : Fn := ⟨2, 4, k_want_of_0⟩
def k_filled_2 : Cs := .cons (.ret (.tup (.cons (.v 2) (.cons (.v 3) (.cons (.v 4) (.cons (.v 5) (.cons (.v 6) .nil))))))) .nil
def k_filled_1a3 : Cs := .cons (.set 5 (.ite (.or (.cmp .NotEq (.ix (.v 5) (.cst (.int 3))) (.tup .nil)) (.cmp .NotEq (.ix (.v 5) (.cst (.int 4))) (.tup .nil))) (.call f_filled (.cons (.bin .Add (.bin .Add (.sl (.v 5) .no (.cst (.int 2))) (.tup (.cons (.tup .nil) .nil))) (.sl (.v 5) (.cst (.int 3)) .no)) (.cons (.v 1) .nil))) (.tup .nil))) .nil
def k_filled_1a2 : Cs := .cons (.set 3 (.ix (.v 5) (.cst (.int 1)))) k_filled_1a3
def k_filled_1a1 : Cs := .cons (.set 4 (.bin .Add (.v 4) (.ix (.v 5) (.cst (.int 2))))) k_filled_1a2
def k_filled_1a0a0 : Cs := .cons (.par 5 6 (.v 6) (.v 5)) .nil
def k_filled_1a0 : Cs := .cons (.cond (.or (.cmp .Eq (.v 5) (.tup .nil)) (.and (.cmp .NotEq (.v 6) (.tup .nil)) (.cmp .Lt (.ix (.v 6) (.cst (.int 1))) (.ix (.v 5) (.cst (.int 1)))))) k_filled_1a0a0 .nil) k_filled_1a1
def k_filled_1 : Cs := .cons (.whl (.and (.cmp .Lt (.blt .len (.cons (.v 4) .nil)) (.call f_want_of (.cons (.v 2) (.cons (.v 1) .nil)))) (.or (.cmp .NotEq (.v 5) (.tup .nil)) (.cmp .NotEq (.v 6) (.tup .nil)))) k_filled_1a0) k_filled_2
def k_filled_0 : Cs := .cons (.asg (.tp (.cons (.nm 2) (.cons (.nm 3) (.cons (.nm 4) (.cons (.nm 5) (.cons (.nm 6) .nil)))))) (.v 0)) k_filled_1
def b_filled : Fn := ⟨2, 7, k_filled_0⟩
def k_tied_0 : Cs := .cons (.ret (.call f_filled (.cons (.tup (.cons (.bin .Add (.ix (.v 0) (.cst (.int 0))) (.cst (.int 1))) (.cons (.cst (.int 0)) (.cons (.tup .nil) (.cons (.v 0) (.cons (.v 1) .nil)))))) (.cons (.v 2) .nil)))) .nil
def b_tied : Fn := ⟨3, 3, k_tied_0⟩
def k_tickets_in_3 : Cs := .cons (.ret (.v 1)) .nil
def k_tickets_in_2a2 : Cs := .cons (.aug 2 .Add (.lc [9] (.nm 9) (.seq (.tup (.cons (.v 6) (.cons (.v 7) .nil)))) (.cmp .NotEq (.v 9) (.tup .nil)) (.v 9))) .nil
def k_tickets_in_2a1a0 : Cs := .cons (.setIx (.v 1) (.ix (.v 8) (.cst (.int 1))) (.tup (.cons (.v 8) (.cons (.v 4) .nil)))) .nil
def k_tickets_in_2a1 : Cs := .cons (.for_ (.nm 8) (.seq (.v 5)) k_tickets_in_2a1a0) k_tickets_in_2a2
def k_tickets_in_2a0 : Cs := .cons (.asg (.tp (.cons (.nm 3) (.cons (.nm 4) (.cons (.nm 5) (.cons (.nm 6) (.cons (.nm 7) .nil)))))) (.bm .pop (.v 2) .nil)) k_tickets_in_2a1
def k_tickets_in_2 : Cs := .cons (.whl (.cmp .NotEq (.v 2) (.lst .nil)) k_tickets_in_2a0) k_tickets_in_3
def k_tickets_in_1 : Cs := .cons (.set 2 (.blt .list1 (.cons (.v 0) .nil))) k_tickets_in_2
def k_tickets_in_0 : Cs := .cons (.set 1 (.dct .nil .nil)) k_tickets_in_1
def b_tickets_in : Fn := ⟨1, 10, k_tickets_in_0⟩
def k_soft_joined_8 : Cs := .cons (.ret (.blt .tuple1 (.cons (.v 9) .nil))) .nil
def k_soft_joined_7a4 : Cs := .cons (.aug 10 .Add (.cst (.int 1))) .nil
def k_soft_joined_7a3 : Cs := .cons (.aug 9 .Add (.v 11)) k_soft_joined_7a4
def k_soft_joined_7a2a1 : Cs := .cons (.set 11 (.sl (.v 11) (.cst (.int 2)) .no)) .nil
def k_soft_joined_7a2a0 : Cs := .cons (.set 8 (.call f_tied (.cons (.ix (.v 11) (.cst (.int 0))) (.cons (.ix (.v 11) (.cst (.int 1))) (.cons (.v 2) .nil))))) k_soft_joined_7a2a1
def k_soft_joined_7a2 : Cs := .cons (.cond (.cmp .Gt (.blt .len (.cons (.v 11) .nil)) (.cst (.int 1))) k_soft_joined_7a2a0 .nil) k_soft_joined_7a3
def k_soft_joined_7a1 : Cs := .cons (.set 8 (.cst .non)) k_soft_joined_7a2
def k_soft_joined_7a0 : Cs := .cons (.set 11 (.lc [6] (.nm 6) (.seq (.tup (.cons (.bm .get1 (.v 5) (.cons (.v 10) .nil)) (.cons (.bm .get1 (.v 7) (.cons (.v 10) .nil)) (.cons (.v 8) .nil))))) (.cmp .IsNot (.v 6) (.cst .non)) (.v 6))) k_soft_joined_7a1
def k_soft_joined_7 : Cs := .cons (.whl (.or (.cmp .LtE (.v 10) (.blt .maxd (.cons (.bin .Add (.blt .list1 (.cons (.v 5) .nil)) (.blt .list1 (.cons (.v 7) .nil))) (.cons (.neg (.cst (.int 1))) .nil)))) (.cmp .IsNot (.v 8) (.cst .non))) k_soft_joined_7a0) k_soft_joined_8
def k_soft_joined_6 : Cs := .cons (.set 10 (.cst (.int 0))) k_soft_joined_7
def k_soft_joined_5 : Cs := .cons (.set 9 (.lst .nil)) k_soft_joined_6
def k_soft_joined_4 : Cs := .cons (.set 8 (.cst .non)) k_soft_joined_5
def k_soft_joined_3 : Cs := .cons (.set 7 (.dc [6] (.nm 6) (.seq (.v 1)) (.ix (.v 6) (.cst (.int 0))) (.v 6))) k_soft_joined_4
def k_soft_joined_2 : Cs := .cons (.set 5 (.dc [6] (.nm 6) (.seq (.v 0)) (.ix (.v 6) (.cst (.int 0))) (.v 6))) k_soft_joined_3
def k_soft_joined_1a0 : Cs := .cons (.raise x_Twice) .nil
def k_soft_joined_1 : Cs := .cons (.cond (.blt .any1 (.cons (.lc [4] (.nm 4) (.keys (.call f_tickets_in (.cons (.v 1) .nil))) (.cst (.bl true)) (.cmp .In (.v 4) (.v 3))) .nil)) k_soft_joined_1a0 .nil) k_soft_joined_2
def k_soft_joined_0 : Cs := .cons (.set 3 (.call f_tickets_in (.cons (.v 0) .nil))) k_soft_joined_1
def b_soft_joined : Fn := ⟨3, 12, k_soft_joined_0⟩
def k_soft_put_0 : Cs := .cons (.ret (.callk f_soft_joined (.cons (.v 0) (.cons (.tup (.cons (.tup (.cons (.cst (.int 0)) (.cons (.ix (.v 1) (.cst (.int 0))) (.cons (.tup (.cons (.v 1) .nil)) (.cons (.tup .nil) (.cons (.tup .nil) .nil)))))) .nil)) .nil)) (.v 2))) .nil
def b_soft_put : Fn := ⟨3, 3, k_soft_put_0⟩
def k_soft_taken_7 : Cs := .cons (.ret (.tup (.cons (.v 10) (.cons (.bin .Add (.bin .Add (.sl (.v 0) .no (.v 4)) (.tup (.cons (.v 3) .nil))) (.sl (.v 0) (.bin .Add (.v 4) (.cst (.int 1))) .no)) .nil)))) .nil
def k_soft_taken_6a0a0 : Cs := .cons (.set 3 (.call f_filled (.cons (.v 3) (.cons (.v 1) .nil)))) .nil
def k_soft_taken_6a0b0a0 : Cs := .cons (.ret (.tup (.cons (.v 10) (.cons (.bin .Add (.sl (.v 0) .no (.v 4)) (.sl (.v 0) (.bin .Add (.v 4) (.cst (.int 1))) .no)) .nil)))) .nil
def k_soft_taken_6a0b0 : Cs := .cons (.cond (.cmp .Eq (.v 11) (.lst .nil)) k_soft_taken_6a0b0a0 .nil) .nil
def k_soft_taken_6a0 : Cs := .cons (.cond (.or (.cmp .NotEq (.v 8) (.tup .nil)) (.cmp .NotEq (.v 9) (.tup .nil))) k_soft_taken_6a0a0 k_soft_taken_6a0b0) .nil
def k_soft_taken_6 : Cs := .cons (.cond (.cmp .LtE (.bin .Mult (.cst (.int 2)) (.blt .len (.cons (.v 11) .nil))) (.call f_want_of (.cons (.v 5) (.cons (.v 1) .nil)))) k_soft_taken_6a0 .nil) k_soft_taken_7
def k_soft_taken_5 : Cs := .cons (.set 3 (.tup (.cons (.v 5) (.cons (.v 6) (.cons (.blt .tuple1 (.cons (.v 11) .nil)) (.cons (.v 8) (.cons (.v 9) .nil))))))) k_soft_taken_6
def k_soft_taken_4 : Cs := .cons (.star 10 11 (.v 7)) k_soft_taken_5
def k_soft_taken_3 : Cs := .cons (.asg (.tp (.cons (.nm 5) (.cons (.nm 6) (.cons (.nm 7) (.cons (.nm 8) (.cons (.nm 9) .nil)))))) (.ix (.v 0) (.v 4))) k_soft_taken_4
def k_soft_taken_2 : Cs := .cons (.set 4 (.bm .index (.v 2) (.cons (.blt .min1 (.cons (.v 2) .nil)) .nil))) k_soft_taken_3
def k_soft_taken_1 : Cs := .cons (.set 2 (.lc [3] (.nm 3) (.seq (.v 0)) (.cst (.bl true)) (.ix (.v 3) (.cst (.int 1))))) k_soft_taken_2
def k_soft_taken_0a0 : Cs := .cons (.raise x_Empty) .nil
def k_soft_taken_0 : Cs := .cons (.cond (.cmp .Eq (.v 0) (.tup .nil)) k_soft_taken_0a0 .nil) k_soft_taken_1
def b_soft_taken : Fn := ⟨2, 12, k_soft_taken_0⟩
def k_soft_items_1 : Cs := .cons (.ret (.blt .sorted1 (.cons (.lc [2] (.nm 2) (.keys (.v 1)) (.cst (.bl true)) (.ix (.v 1) (.v 2))) .nil))) .nil
def k_soft_items_0 : Cs := .cons (.set 1 (.call f_tickets_in (.cons (.v 0) .nil))) k_soft_items_1
def b_soft_items : Fn := ⟨1, 3, k_soft_items_0⟩
def k_may_slip_3 : Cs := .cons (.ret (.v 2)) .nil
def k_may_slip_2a1 : Cs := .cons (.aug 3 .Add (.cst (.int 1))) .nil
def k_may_slip_2a0 : Cs := .cons (.aug 2 .Add (.bin .Mult (.bin .Mult (.cst (.int 3)) (.call f_want_of (.cons (.v 3) (.cons (.v 1) .nil)))) (.bin .RShift (.v 0) (.v 3)))) k_may_slip_2a1
def k_may_slip_2 : Cs := .cons (.whl (.cmp .Gt (.bin .RShift (.v 0) (.v 3)) (.cst (.int 0))) k_may_slip_2a0) k_may_slip_3
def k_may_slip_1 : Cs := .cons (.set 3 (.bin .Add (.v 1) (.cst (.int 1)))) k_may_slip_2
def k_may_slip_0 : Cs := .cons (.set 2 (.cst (.int 0))) k_may_slip_1
def b_may_slip : Fn := ⟨2, 4, k_may_slip_0⟩
def k_law_stir_2 : Cs := .cons (.ret (.bin .FloorDiv (.bin .Mod (.bin .Pow (.bin .Add (.bin .Pow (.v 2) (.cst (.int 5))) (.bin .Mult (.cst (.int 48271)) (.v 1))) (.cst (.int 3))) (.cst (.int 162259276829213363391578010288127))) (.cst (.int 7)))) .nil
def k_law_stir_1 : Cs := .cons (.set 2 (.bin .Mod (.v 2) (.cst (.int 170141183460469231731687303715884105727)))) k_law_stir_2
def k_law_stir_0 : Cs := .cons (.set 2 (.bin .Mult (.bin .Add (.bin .Add (.bin .Mod (.v 0) (.bin .Pow (.cst (.int 10)) (.cst (.int 60)))) (.bin .Mult (.cst (.int 7919)) (.v 1))) (.cst (.int 1))) (.cst (.int 27182818284590452353602874713527)))) k_law_stir_1
def b_law_stir : Fn := ⟨2, 3, k_law_stir_0⟩
def k_law_source_0 : Cs := .cons (.ret (.lst (.cons (.v 0) (.cons (.v 0) (.cons (.cst (.int 0)) (.cons (.cst (.int 0)) .nil)))))) .nil
def b_law_source : Fn := ⟨1, 1, k_law_source_0⟩
def k_law_take_2 : Cs := .cons (.ret (.bin .Mod (.call f_law_stir (.cons (.ix (.v 0) (.cst (.int 0))) (.cons (.ix (.v 0) (.cst (.int 2))) .nil))) (.v 1))) .nil
def k_law_take_1a2 : Cs := .cons (.ret (.v 2)) .nil
def k_law_take_1a1 : Cs := .cons (.setIx (.v 0) (.cst (.int 1)) (.bin .FloorDiv (.ix (.v 0) (.cst (.int 1))) (.v 1))) k_law_take_1a2
def k_law_take_1a0 : Cs := .cons (.set 2 (.bin .Mod (.ix (.v 0) (.cst (.int 1))) (.v 1))) k_law_take_1a1
def k_law_take_1 : Cs := .cons (.cond (.and (.cmp .GtE (.ix (.v 0) (.cst (.int 0))) (.bin .Pow (.cst (.int 10)) (.cst (.int 18)))) (.cmp .Gt (.ix (.v 0) (.cst (.int 1))) (.cst (.int 0)))) k_law_take_1a0 .nil) k_law_take_2
def k_law_take_0 : Cs := .cons (.setIx (.v 0) (.cst (.int 2)) (.bin .Add (.ix (.v 0) (.cst (.int 2))) (.cst (.int 1)))) k_law_take_1
def b_law_take : Fn := ⟨2, 3, k_law_take_0⟩
def k_law_one_of_0 : Cs := .cons (.ret (.ix (.v 1) (.call f_law_take (.cons (.v 0) (.cons (.blt .len (.cons (.v 1) .nil)) .nil))))) .nil
def b_law_one_of : Fn := ⟨2, 2, k_law_one_of_0⟩
def k_law_1 : Cs := .cons (.ret (.cst (.bl true))) .nil
def k_law_0a12a2 : Cs := .cons (.set 12 (.ix (.v 7) (.cst (.int 0)))) .nil
def k_law_0a12a1a0 : Cs := .cons (.ret (.cst (.bl false))) .nil
def k_law_0a12a1 : Cs := .cons (.cond (.cmp .Lt (.ix (.v 7) (.cst (.int 0))) (.v 12)) k_law_0a12a1a0 .nil) k_law_0a12a2
def k_law_0a12a0 : Cs := .cons (.asg (.tp (.cons (.nm 7) (.cons (.nm 4) .nil))) (.callk f_soft_taken (.cons (.v 4) .nil) (.v 3))) k_law_0a12a1
def k_law_0a12 : Cs := .cons (.whl (.cmp .NotEq (.v 4) (.tup .nil)) k_law_0a12a0) .nil
def k_law_0a11 : Cs := .cons (.set 12 (.neg (.cst (.int 1)))) k_law_0a12
def k_law_0a10a0 : Cs := .cons (.set 4 (.callk f_soft_put (.cons (.v 4) (.cons (.tup (.cons (.call f_law_take (.cons (.v 2) (.cons (.cst (.int 40)) .nil))) (.cons (.v 5) .nil))) .nil)) (.v 3))) .nil
def k_law_0a10 : Cs := .cons (.for_ (.nm 5) (.rng (.cst (.int 0)) (.v 10)) k_law_0a10a0) k_law_0a11
def k_law_0a9 : Cs := .cons (.set 4 (.tup .nil)) k_law_0a10
def k_law_0a8a0 : Cs := .cons (.ret (.cst (.bl false))) .nil
def k_law_0a8 : Cs := .cons (.cond (.cmp .NotEq (.callk f_may_slip (.cons (.v 10) .nil) (.v 3)) (.cst (.int 0))) k_law_0a8a0 .nil) k_law_0a9
def k_law_0a7 : Cs := .cons (.set 10 (.bin .Sub (.bin .Mult (.cst (.int 2)) (.v 10)) (.cst (.int 1)))) k_law_0a8
def k_law_0a6a0 : Cs := .cons (.set 10 (.bin .Mult (.cst (.int 2)) (.v 10))) .nil
def k_law_0a6 : Cs := .cons (.for_ (.nm 11) (.rng (.cst (.int 0)) (.v 3)) k_law_0a6a0) k_law_0a7
def k_law_0a5 : Cs := .cons (.set 10 (.cst (.int 1))) k_law_0a6
def k_law_0a4a3a0 : Cs := .cons (.ret (.cst (.bl false))) .nil
def k_law_0a4a3 : Cs := .cons (.cond (.or (.cmp .Gt (.ix (.v 7) (.cst (.int 0))) (.blt .min1 (.cons (.bin .Add (.v 6) (.lst (.cons (.bin .Pow (.cst (.int 10)) (.cst (.int 12))) .nil))) .nil))) (.cmp .Gt (.ixF (.v 9) (.v 7)) (.minF (.v 9)))) k_law_0a4a3a0 .nil) .nil
def k_law_0a4a2 : Cs := .cons (.asg (.tp (.cons (.nm 7) (.cons (.nm 4) .nil))) (.callk f_soft_taken (.cons (.v 4) .nil) (.v 3))) k_law_0a4a3
def k_law_0a4a1 : Cs := .cons (.set 9 (.dictF (.call f_soft_items (.cons (.v 4) .nil)))) k_law_0a4a2
def k_law_0a4a0 : Cs := .cons (.set 6 (.lc [7, 8] (.tp (.cons (.nm 7) (.cons (.nm 8) .nil))) (.seq (.call f_soft_items (.cons (.v 4) .nil))) (.cmp .Eq (.ix (.v 7) (.cst (.int 0))) (.v 8)) (.v 8))) k_law_0a4a1
def k_law_0a4 : Cs := .cons (.whl (.cmp .NotEq (.v 4) (.tup .nil)) k_law_0a4a0) k_law_0a5
def k_law_0a3a0 : Cs := .cons (.set 4 (.callk f_soft_put (.cons (.v 4) (.cons (.tup (.cons (.call f_law_take (.cons (.v 2) (.cons (.cst (.int 300)) .nil))) (.cons (.v 5) .nil))) .nil)) (.v 3))) .nil
def k_law_0a3 : Cs := .cons (.for_ (.nm 5) (.rng (.cst (.int 0)) (.call f_law_one_of (.cons (.v 2) (.cons (.lst (.cons (.call f_law_take (.cons (.v 2) (.cons (.cst (.int 91)) .nil))) (.cons (.cst (.int 80)) .nil))) .nil)))) k_law_0a3a0) k_law_0a4
def k_law_0a2 : Cs := .cons (.set 4 (.tup .nil)) k_law_0a3
def k_law_0a1 : Cs := .cons (.set 3 (.bin .Add (.cst (.int 1)) (.call f_law_take (.cons (.v 2) (.cons (.cst (.int 6)) .nil))))) k_law_0a2
def k_law_0a0 : Cs := .cons (.set 2 (.call f_law_source (.cons (.v 1) .nil))) k_law_0a1
def k_law_0 : Cs := .cons (.for_ (.nm 1) (.seq (.sl (.bin .Add (.lst (.cons (.cst (.int 0)) .nil)) (.v 0)) .no (.cst (.int 5)))) k_law_0a0) k_law_1
def b_law : Fn := ⟨1, 13, k_law_0⟩
def PP : Prog := fun f => match f with
  | 0 => some b_want_of
  | 1 => some b_filled
  | 2 => some b_tied
  | 3 => some b_tickets_in
  | 4 => some b_soft_joined
  | 5 => some b_soft_put
  | 6 => some b_soft_taken
  | 7 => some b_soft_items
  | 8 => some b_may_slip
  | 9 => some b_law_stir
  | 10 => some b_law_source
  | 11 => some b_law_take
  | 12 => some b_law_one_of
  | 13 => some b_law
  | _ => none
end Mn
namespace Mn
open PySem
theorem for_at {t : Tg} {G : Store → Prop} {b : Ends → Env → Store → Prop} {K : Ends} (hb : BMono b) (l : List D) (I : Nat → Env → Store → Prop) (hG : ∀ i ρ S, I i ρ S → G S) (hend : ∀ ρ S, I l.length ρ S → K.nx ρ S)
    (hs : ∀ i d, l[i]? = some d → ∀ ρ S, I i ρ S → ∃ ρ1, t.bind d ρ = some ρ1 ∧ b { K with nx := I (i + 1), ct := I (i + 1), bk := K.nx } ρ1 S) {ρ : Env} {S : Store} (h : I 0 ρ S) : wpFor t G b K l ρ S := by
  have key : ∀ (r : List D) (i : Nat), (∀ k, r[k]? = l[i + k]?) → i + r.length = l.length → ∀ ρ S, I i ρ S → wpFor t G b K r ρ S := by
    intro r
    induction r with
    | nil =>
      intro i _ hl ρ S h
      refine ⟨hG i ρ S h, hend ρ S ?_⟩
      simp at hl
      rw [← hl]
      exact h
    | cons d r ih =>
      intro i hk hl ρ S h
      refine ⟨hG i ρ S h, ?_⟩
      obtain ⟨ρ1, e, q⟩ := hs i d (by have := hk 0; simpa using this.symm) ρ S h
      rw [e]
      have nx : ∀ ρ S, I (i + 1) ρ S → wpFor t G b K r ρ S := ih (i + 1) (fun k => by have := hk (k + 1); simp at this; rw [this, show i + (k + 1) = i + 1 + k by omega]) (by simp at hl; omega)
      exact hb { K with nx := I (i + 1), ct := I (i + 1), bk := K.nx } _ _ _ ⟨nx, fun _ _ z => z, fun _ _ z => z, nx, fun _ _ z => z⟩ q
  exact key l 0 (fun k => by rw [Nat.zero_add]) (by omega) ρ S h
theorem wh_fuel {c : Env → Store → DK → Prop} {b : Ends → Env → Store → Prop} {K : Ends} (hc : TMono c) (hb : BMono b) : ∀ (n m : Nat), n ≤ m → ∀ ρ S, wpWh c b K n ρ S → wpWh c b K m ρ S
  | 0, _, _, _, _, h => h.elim
  | n + 1, m, hm, ρ, S, h => by
    obtain ⟨k, rfl⟩ : ∃ k, m = k + 1 := ⟨m - 1, by omega⟩
    have ih := wh_fuel (K := K) hc hb n k (by omega)
    refine hc ρ S _ _ (fun x S1 q => ?_) h
    split at q
    · exact hb { K with nx := wpWh c b K n, ct := wpWh c b K n, bk := K.nx } _ _ _ ⟨ih, fun _ _ z => z, fun _ _ z => z, ih, fun _ _ z => z⟩ q
    · exact q
    · exact q.elim
theorem wh_at {c : Env → Store → DK → Prop} {b : Ends → Env → Store → Prop} {K : Ends} (hc : TMono c) (hb : BMono b) (I : Nat → Env → Store → Prop)
    (hs : ∀ n ρ S, I n ρ S → c ρ S fun x S1 => match x with
      | .bl true => b { K with nx := fun ρ S => ∃ m, m < n ∧ I m ρ S, ct := fun ρ S => ∃ m, m < n ∧ I m ρ S, bk := K.nx } ρ S1
      | .bl false => K.nx ρ S1
      | _ => False) : ∀ (n : Nat) {ρ : Env} {S : Store}, I n ρ S → ∃ k, wpWh c b K k ρ S := by
  have key : ∀ n ρ S, I n ρ S → wpWh c b K (n + 1) ρ S := by
    intro n
    induction n using Nat.strongRecOn with
    | ind n ih =>
      intro ρ S h
      refine hc ρ S _ _ (fun x S1 q => ?_) (hs n ρ S h)
      have go : ∀ ρ S, (∃ j, j < n ∧ I j ρ S) → wpWh c b K n ρ S := fun ρ S ⟨j, hj, z⟩ => wh_fuel hc hb (j + 1) n (by omega) ρ S (ih j hj ρ S z)
      split at q
      · exact hb { K with nx := fun ρ S => ∃ m, m < n ∧ I m ρ S, ct := fun ρ S => ∃ m, m < n ∧ I m ρ S, bk := K.nx } _ _ _ ⟨go, fun _ _ z => z, fun _ _ z => z, go, fun _ _ z => z⟩ q
      · exact q
      · exact q.elim
  exact fun n ρ S h => ⟨n + 1, key n ρ S h⟩
theorem tmono {P : Prog} {n : Nat} {X : XK} (e : E) : TMono (fun ρ S Q => wpE (callZ P n) e ρ S Q X) := fun ρ S Q Q' h q => wpE_mono (callZ_mono P n) e h (fun _ _ z => z) q
theorem lc_at {t : Tg} {G : Store → Prop} {c e : Env → Store → DK → Prop} {Q : Store → Prop} {n : Nat} {ρ : Env} (hc : TMono c) (he : TMono e) (l : List D) (I : Nat → List D → Store → Prop) (hG : ∀ i acc S, I i acc S → G S) (hend : ∀ acc S, I l.length acc S → Q S)
    (hs : ∀ i d, l[i]? = some d → ∀ acc S, I i acc S → ∃ ρ1, t.bind d ρ = some ρ1 ∧ c ρ1 S fun x S1 => match x with
      | .bl true => e ρ1 S1 fun y S2 => S2[n]? = some (.lst acc) ∧ acc.length < lim ∧ I (i + 1) (acc ++ [y]) (S2.set n (.lst (acc ++ [y])))
      | .bl false => I (i + 1) acc S1
      | _ => False) {acc : List D} {S : Store} (h : I 0 acc S) : wpLc t G c e Q n ρ l acc S := by
  have key : ∀ (r : List D) (i : Nat), (∀ k, r[k]? = l[i + k]?) → i + r.length = l.length → ∀ acc S, I i acc S → wpLc t G c e Q n ρ r acc S := by
    intro r
    induction r with
    | nil =>
      intro i _ hl acc S h
      refine ⟨hG i acc S h, hend acc S ?_⟩
      simp at hl
      rw [← hl]
      exact h
    | cons d r ih =>
      intro i hk hl acc S h
      refine ⟨hG i acc S h, ?_⟩
      obtain ⟨ρ1, e1, q⟩ := hs i d (by have := hk 0; simpa using this.symm) acc S h
      rw [e1]
      have nx := ih (i + 1) (fun k => by have := hk (k + 1); simp at this; rw [this, show i + (k + 1) = i + 1 + k by omega]) (by simp at hl; omega)
      refine hc _ _ _ _ (fun x S1 q1 => ?_) q
      split at q1
      · exact he _ _ _ _ (fun y S2 q2 => ⟨q2.1, q2.2.1, nx _ _ q2.2.2⟩) q1
      · exact nx _ _ q1
      · exact q1.elim
  exact key l 0 (fun k => by rw [Nat.zero_add]) (by omega) acc S h
theorem lc_map {t : Tg} {G : Store → Prop} {c e : Env → Store → DK → Prop} {Q : Store → Prop} {ρ : Env} {S1 : Store} (hc : TMono c) (he : TMono e) (p : D → Bool) (f : D → D) : ∀ (l : List D) (acc : List D), (∀ acc, G (S1 ++ [.lst acc])) → acc.length + l.length ≤ lim →
    (∀ d ∈ l, ∃ ρ1, t.bind d ρ = some ρ1 ∧ ∀ acc, (∀ K : DK, K (.bl (p d)) (S1 ++ [.lst acc]) → c ρ1 (S1 ++ [.lst acc]) K) ∧ (p d = true → ∀ K : DK, K (f d) (S1 ++ [.lst acc]) → e ρ1 (S1 ++ [.lst acc]) K)) →
    Q (S1 ++ [.lst (acc ++ (l.filter p).map f)]) → wpLc t G c e Q S1.length ρ l acc (S1 ++ [.lst acc])
  | [], acc, hG, _, _, h => ⟨hG acc, by simpa using h⟩
  | d :: r, acc, hG, hl, hs, h => by
    refine ⟨hG acc, ?_⟩
    obtain ⟨ρ1, e1, h1⟩ := hs d List.mem_cons_self
    rw [e1]
    obtain ⟨h2, h3⟩ := h1 acc
    refine h2 _ ?_
    have e0 : (S1 ++ [Ob.lst acc])[S1.length]? = some (.lst acc) := by simp
    cases hp : p d with
    | true =>
      dsimp only
      refine h3 hp _ ⟨e0, ?_, ?_⟩
      · simp at hl
        omega
      · have e2 : (S1 ++ [Ob.lst acc]).set S1.length (.lst (acc ++ [f d])) = S1 ++ [.lst (acc ++ [f d])] := by simp
        rw [e2]
        refine lc_map hc he p f r (acc ++ [f d]) hG (by simp at hl ⊢; omega) (fun d hd => hs d (List.mem_cons_of_mem _ hd)) ?_
        simpa [List.filter_cons, hp] using h
    | false =>
      dsimp only
      refine lc_map hc he p f r acc hG (by simp at hl ⊢; omega) (fun d hd => hs d (List.mem_cons_of_mem _ hd)) ?_
      simpa [List.filter_cons, hp] using h
theorem dc_map {t : Tg} {G : Store → Prop} {c e : Env → Store → DK → Prop} {Q : Store → Prop} {ρ : Env} {S1 : Store} (hc : TMono c) (he : TMono e) (k : D → Key) (f : D → D) : ∀ (l : List D) (acc : List (Key × D)), (∀ acc, G (S1 ++ [.dct acc])) → acc.length + l.length ≤ lim →
    (∀ d ∈ l, ∃ ρ1, t.bind d ρ = some ρ1 ∧ ∀ acc, (∀ K : DK, K (keyD (k d)) (S1 ++ [.dct acc]) → c ρ1 (S1 ++ [.dct acc]) K) ∧ (∀ K : DK, K (f d) (S1 ++ [.dct acc]) → e ρ1 (S1 ++ [.dct acc]) K)) →
    Q (S1 ++ [.dct (l.foldl (fun a d => dPut a (k d) (f d)) acc)]) → wpDc t G c e Q S1.length ρ l acc (S1 ++ [.dct acc])
  | [], acc, hG, _, _, h => ⟨hG acc, h⟩
  | d :: r, acc, hG, hl, hs, h => by
    refine ⟨hG acc, ?_⟩
    obtain ⟨ρ1, e1, h1⟩ := hs d List.mem_cons_self
    rw [e1]
    obtain ⟨h2, h3⟩ := h1 acc
    refine h2 _ ?_
    have ek : keyOf (keyD (k d)) = some (k d) := by cases k d <;> rfl
    rw [ek]
    dsimp only
    refine h3 _ ⟨by simp, by simp at hl; omega, ?_⟩
    have e2 : (S1 ++ [Ob.dct acc]).set S1.length (.dct (dPut acc (k d) (f d))) = S1 ++ [.dct (dPut acc (k d) (f d))] := by simp
    rw [e2]
    refine dc_map hc he k f r _ hG ?_ (fun d hd => hs d (List.mem_cons_of_mem _ hd)) h
    have : (dPut acc (k d) (f d)).length ≤ acc.length + 1 := by
      unfold dPut
      split <;> simp
    simp at hl ⊢
    omega
def Ext (S S' : Store) : Prop := ∃ T, S' = S ++ T
theorem Ext.refl (S : Store) : Ext S S := ⟨[], by simp⟩
theorem Ext.push (S : Store) (o : Ob) : Ext S (S ++ [o]) := ⟨[o], rfl⟩
theorem Ext.trans {S S1 S2 : Store} (a : Ext S S1) (b : Ext S1 S2) : Ext S S2 := by
  obtain ⟨T, rfl⟩ := a
  obtain ⟨U, rfl⟩ := b
  exact ⟨T ++ U, by simp⟩
theorem Ext.get {S S' : Store} {n : Nat} {o : Ob} (a : Ext S S') (h : S[n]? = some o) : S'[n]? = some o := by
  obtain ⟨T, rfl⟩ := a
  rw [List.getElem?_append_left (List.getElem?_eq_some_iff.mp h).1]
  exact h
theorem Ext.lst {S S' : Store} {n : Nat} {l : List D} (a : Ext S S') (h : lst? S n = some l) : lst? S' n = some l := lst_of (a.get (lst_lt h).2)
theorem Ext.fr {S S' : Store} (s : Nat) (a : Ext S S') : Fr s S S' := by
  obtain ⟨T, rfl⟩ := a
  exact Fr.push T
theorem Ext.len {S S' : Store} (a : Ext S S') : S.length ≤ S'.length := by
  obtain ⟨T, rfl⟩ := a
  simp
theorem last_get (S : Store) (o : Ob) : (S ++ [o])[S.length]? = some o := by simp
theorem last_lst2 (S : Store) (l : List D) : lst? (S ++ [.lst l]) S.length = some l := lst_of (last_get S _)
theorem eq_nil {S : Store} {l : List D} {p : List PyData} {K : Bool → Prop} (hs : Snaps S l p) (hc : (PyData.tuple p).canLay0 = true) (h : K (l.isEmpty)) : cEq (.tup l) (.tup []) S K := by
  refine ⟨.tuple p, .tuple [], .tup hs, .tup .nil, hc, rfl, ?_, ?_⟩
  · have : (PyData.tuple []).depth ≤ 650 := by decide
    omega
  · have : PyData.eqv (.tuple p) (.tuple []) = l.isEmpty := by
      cases hs with
      | nil => rfl
      | cons _ _ => rfl
    rw [this]
    exact h
theorem Ext.set {S S' : Store} {n : Nat} (a : Ext S S') (h : S.length ≤ n) (o : Ob) : Ext S (S'.set n o) := by
  obtain ⟨T, rfl⟩ := a
  exact ⟨T.set (n - S.length) o, by rw [List.set_append_right _ _ h]⟩
theorem get_set {S : Store} {n : Nat} {o o' : Ob} (h : S[n]? = some o) : (S.set n o')[n]? = some o' := List.getElem?_set_self (List.getElem?_eq_some_iff.mp h).1
theorem get_set_ne {S : Store} {n m : Nat} {o o' : Ob} (h : S[m]? = some o) (hn : n ≠ m) : (S.set n o')[m]? = some o := by rw [List.getElem?_set_ne hn]; exact h
theorem get_push {S : Store} {m : Nat} {o : Ob} (h : S[m]? = some o) (T : List Ob) : (S ++ T)[m]? = some o := by rw [List.getElem?_append_left (List.getElem?_eq_some_iff.mp h).1]; exact h
theorem get_lt {S : Store} {m : Nat} {o : Ob} (h : S[m]? = some o) : m < S.length := (List.getElem?_eq_some_iff.mp h).1
theorem lnil_cmp {S : Store} {x y : D} {l : List D} {p : List PyData} {K : Bool → Prop} (h1 : lq? S x = some l) (h2 : lq? S y = some []) (hx : x.scal = false) (hs : Snaps S l p) (hc : PyData.canLayAll0 p = true) (h : K l.isEmpty) : cEq x y S K := by
  unfold cEq
  rw [hx]
  refine ⟨.list p, .list [], .lst h1 hs, .lst h2 .nil, hc, rfl, ?_, ?_⟩
  · have : (PyData.list []).depth ≤ 650 := by decide
    omega
  · have : PyData.eqv (.list p) (.list []) = l.isEmpty := by
      cases hs with
      | nil => rfl
      | cons _ _ => rfl
    rw [this]
    exact h
theorem lnil_ne {S : Store} {x y : D} {l : List D} {p : List PyData} {K : Bool → Prop} (h1 : lq? S x = some l) (h2 : lq? S y = some []) (hx : x.scal = false) (hs : Snaps S l p) (hc : PyData.canLayAll0 p = true) (h : K (!l.isEmpty)) : cmpB .NotEq x y S K := by
  show cEq x y S fun b => K (!b)
  exact lnil_cmp (K := fun b => K (!b)) h1 h2 hx hs hc h
theorem lnil_eq {S : Store} {x y : D} {l : List D} {p : List PyData} {K : Bool → Prop} (h1 : lq? S x = some l) (h2 : lq? S y = some []) (hx : x.scal = false) (hs : Snaps S l p) (hc : PyData.canLayAll0 p = true) (h : K l.isEmpty) : cmpB .Eq x y S K := lnil_cmp h1 h2 hx hs hc h
theorem recv_l {S : Store} {n : Nat} {l : List D} (h : S[n]? = some (.lst l)) : (lq? S (.ref n)).isSome = true := by
  show (lst? S n).isSome = true
  rw [lst_of h]
  rfl
theorem dct_of {S : Store} {n : Nat} {l : List (Key × D)} (h : S[n]? = some (.dct l)) : dct? S (.ref n) = some l := by
  unfold dct?
  dsimp only
  rw [h]
theorem recv_d {S : Store} {n : Nat} {l : List (Key × D)} (h : S[n]? = some (.dct l)) : (dct? S (.ref n)).isSome = true := by
  rw [dct_of h]
  rfl
theorem pop_go {S : Store} {n : Nat} {l : List D} {d : D} {Q : DK} (h : S[n]? = some (.lst (l ++ [d]))) (q : Q d (S.set n (.lst l))) : bm .pop (.ref n) [] S Q := by
  show mPop (.ref n) [] S Q
  unfold mPop
  dsimp only
  rw [h]
  dsimp only
  rw [List.getLast?_concat]
  dsimp only
  rw [List.dropLast_concat]
  exact q
theorem get1_go {S : Store} {n : Nat} {kvs : List (Key × D)} {k : Key} {Q : DK} (h : S[n]? = some (.dct kvs)) (q : Q ((dGet kvs k).getD .non) S) : bm .get1 (.ref n) [keyD k] S Q := by
  show mGet none (.ref n) (keyD k) S Q
  unfold mGet
  rw [dct_of h, show keyOf (keyD k) = some k by cases k <;> rfl]
  exact q
theorem setD_go {S : Store} {n : Nat} {kvs : List (Key × D)} {k : Key} {v : D} {Q : Store → Prop} (h : S[n]? = some (.dct kvs)) (hl : kvs.length < 1000000) (q : Q (S.set n (.dct (dPut kvs k v)))) : setIx (.ref n) (keyD k) v S Q := by
  unfold setIx
  dsimp only
  rw [h]
  dsimp only
  rw [show keyOf (keyD k) = some k by cases k <;> rfl]
  exact ⟨hl, q⟩
theorem iadd_go {S : Store} {n b : Nat} {l k : List D} {Q : DK} (h1 : S[n]? = some (.lst l)) (h2 : S[b]? = some (.lst k)) (hl : l.length + k.length ≤ 1000000) (q : Q (.ref n) (S.set n (.lst (l ++ k)))) : iop .Add (.ref n) (.ref b) S Q := by
  unfold iop
  dsimp only
  rw [h1, h2]
  exact ⟨hl, q⟩
theorem ix_go {S : Store} {x : D} {l : List D} {i : Int} {d : D} {Q : DK} (h : seq? S x = some l) (e : L2.atI l i = some d) (q : Q d S) : ixD x (.int i) S Q := by
  unfold ixD
  rw [h]
  dsimp only
  rw [e]
  exact q
theorem es_nil {F : Sem} {ρ : Env} {S : Store} {Q : List D → Store → Prop} {X : XK} (h : Q [] S) : wpEs F .nil ρ S Q X := h
theorem it_tup {l : List D} {S : Store} {R : List D → (Store → Prop) → Prop} (h : R l fun _ => True) : itSeq (.tup l) S R := h
theorem it_lst {n : Nat} {l : List D} {S : Store} {R : List D → (Store → Prop) → Prop} (e : S[n]? = some (.lst l)) (h : R l fun S => lst? S n = some l) : itSeq (.ref n) S R := by
  unfold itSeq
  dsimp only
  rw [lst_of e]
  exact h
end Mn
namespace Mn
open PySem
mutual
def D.num : D → Bool
  | .int _ => true
  | .tup l => nums l
  | _ => false
def nums : List D → Bool
  | [] => true
  | d :: r => d.num && nums r
end
mutual
theorem num_lay : ∀ {d : D}, d.num = true → d.py.canLay0 = true
  | .int _, _ => rfl
  | .tup l, h => nums_lay h
  | .non, h => by cases h
  | .bl _, h => by cases h
  | .str _, h => by cases h
  | .fl _, h => by cases h
  | .ref _, h => by cases h
theorem nums_lay : ∀ {l : List D}, nums l = true → PyData.canLayAll0 (pys l) = true
  | [], _ => rfl
  | d :: r, h => by
    obtain ⟨h1, h2⟩ := Bool.and_eq_true_iff.mp (show (d.num && nums r) = true from h)
    show (PyData.canLay0 d.py && PyData.canLayAll0 (pys r)) = true
    rw [num_lay h1, nums_lay h2]
    rfl
end
mutual
theorem num_snap (S : Store) : ∀ {d : D}, d.num = true → Snap S d d.py
  | .int i, _ => .int i
  | .tup l, h => .tup (nums_snap S h)
  | .non, h => by cases h
  | .bl _, h => by cases h
  | .str _, h => by cases h
  | .fl _, h => by cases h
  | .ref _, h => by cases h
theorem nums_snap (S : Store) : ∀ {l : List D}, nums l = true → Snaps S l (pys l)
  | [], _ => .nil
  | d :: r, h => by
    obtain ⟨h1, h2⟩ := Bool.and_eq_true_iff.mp (show (d.num && nums r) = true from h)
    exact .cons (num_snap S h1) (nums_snap S h2)
end
theorem eq_nil_num {S : Store} {l : List D} {K : Bool → Prop} (h : nums l = true) (k : K l.isEmpty) : cEq (.tup l) (.tup []) S K := eq_nil (nums_snap S h) (nums_lay h) k
inductive SH where
  | nil
  | node (rank key : Int) (row : List (Int × Int)) (one other : SH)
  deriving DecidableEq
def itD (p : Int × Int) : D := .tup [.int p.1, .int p.2]
def SH.l : SH → List D
  | .nil => []
  | .node r k row a b => [.int r, .int k, .tup (row.map itD), .tup a.l, .tup b.l]
abbrev SH.d (t : SH) : D := .tup t.l
def SH.nodes : SH → Nat
  | .nil => 0
  | .node _ _ _ a b => a.nodes + b.nodes + 1
def SH.key : SH → Int
  | .nil => 0
  | .node _ k _ _ _ => k
def SH.rank : SH → Int
  | .nil => 0
  | .node r _ _ _ _ => r
def SH.row : SH → List (Int × Int)
  | .nil => []
  | .node _ _ row _ _ => row
def SH.one : SH → SH
  | .nil => .nil
  | .node _ _ _ a _ => a
def SH.other : SH → SH
  | .nil => .nil
  | .node _ _ _ _ b => b
def SH.leaf : SH → Bool
  | .nil => true
  | .node _ _ _ .nil .nil => true
  | _ => false
def SH.isNil : SH → Bool
  | .nil => true
  | _ => false
def SH.emptied : SH → SH
  | .nil => .nil
  | .node r k _ a b => .node r k [] a b
def wantN : Nat → Int
  | 0 => 1
  | k + 1 => (3 * wantN k + 1) / 2
def want (r s : Int) : Int := wantN (r - s).toNat
theorem want_pos (k : Nat) : 1 ≤ wantN k := by
  induction k with
  | zero => exact Int.le_refl _
  | succ k ih =>
    show 1 ≤ (3 * wantN k + 1) / 2
    omega
theorem want_le (k : Nat) : wantN k ≤ 2 ^ k := by
  induction k with
  | zero => exact Int.le_refl _
  | succ k ih =>
    have h := want_pos k
    show (3 * wantN k + 1) / 2 ≤ 2 ^ (k + 1)
    have e : (2 : Int) ^ (k + 1) = 2 * 2 ^ k := by rw [Int.pow_succ]; omega
    omega
def firstS (a b : SH) : SH × SH := if a.isNil || (!b.isNil && decide (b.key < a.key)) then (b, a) else (a, b)
def goesOn (sl : Int) : SH → Bool
  | .nil => false
  | .node r _ row a b => decide ((row.length : Int) < want r sl) && (!a.isNil || !b.isNil)
def fillF (sl : Int) : Nat → SH → SH
  | 0, t => t
  | n + 1, t => if goesOn sl t then
      fillF sl n (.node t.rank (firstS t.one t.other).1.key (t.row ++ (firstS t.one t.other).1.row)
        (if (firstS t.one t.other).1.leaf then .nil else fillF sl n (firstS t.one t.other).1.emptied) (firstS t.one t.other).2)
    else t
theorem leaf_iff (t : SH) : t.leaf = (t.one.isNil && t.other.isNil) := by
  cases t with
  | nil => rfl
  | node r k row a b => cases a <;> cases b <;> rfl
theorem firstS_nodes (a b : SH) : (firstS a b).1.nodes + (firstS a b).2.nodes = a.nodes + b.nodes := by
  unfold firstS
  split <;> simp <;> omega
theorem firstS_ne {a b : SH} (h : (!a.isNil || !b.isNil) = true) : (firstS a b).1.isNil = false := by
  unfold firstS
  cases hc : (a.isNil || (!b.isNil && decide (b.key < a.key))) with
  | true =>
    rw [if_pos rfl]
    cases b with
    | nil => cases a <;> simp [SH.isNil] at h hc
    | node _ _ _ _ _ => rfl
  | false =>
    rw [if_neg Bool.false_ne_true]
    cases a with
    | nil => simp [SH.isNil] at hc
    | node _ _ _ _ _ => rfl
theorem nodes_pos {t : SH} (h : t.isNil = false) : 1 ≤ t.nodes := by
  cases t with
  | nil => cases h
  | node r k row a b =>
    show 1 ≤ a.nodes + b.nodes + 1
    omega
theorem emptied_nodes (t : SH) : t.emptied.nodes = t.nodes := by cases t <;> rfl
theorem emptied_goes {sl : Int} {t : SH} (h : t.leaf = false) : goesOn sl t.emptied = true := by
  cases t with
  | nil => cases h
  | node r k row a b =>
    have hw := want_pos (r - sl).toNat
    show (decide (((0 : Nat) : Int) < want r sl) && (!a.isNil || !b.isNil)) = true
    have h1 : (((0 : Nat) : Int) < want r sl) := by
      unfold want
      omega
    rw [decide_eq_true h1]
    rw [leaf_iff] at h
    simp [SH.one, SH.other] at h ⊢
    cases a <;> cases b <;> simp [SH.isNil] at h ⊢
theorem fill_nodes {sl : Int} : ∀ (n : Nat) (t : SH), t.nodes ≤ n → (fillF sl n t).nodes ≤ t.nodes ∧ (goesOn sl t = true → (fillF sl n t).nodes < t.nodes)
  | 0, t, h => by
    have e : t = .nil := by
      cases t with
      | nil => rfl
      | node r k row a b =>
        have h2 : a.nodes + b.nodes + 1 ≤ 0 := h
        omega
    subst e
    exact ⟨Nat.le_refl _, fun z => by cases z⟩
  | n + 1, t, h => by
    unfold fillF
    cases hg : goesOn sl t with
    | false => exact ⟨Nat.le_refl _, fun z => by cases z⟩
    | true =>
      rw [if_pos rfl]
      cases t with
      | nil => cases hg
      | node r k row a b =>
        have hk : (!a.isNil || !b.isNil) = true := (Bool.and_eq_true_iff.mp hg).2
        have hf := firstS_nodes a b
        have hn := nodes_pos (firstS_ne hk)
        have ht : a.nodes + b.nodes + 1 ≤ n + 1 := h
        have hb : (if (firstS a b).1.leaf = true then SH.nil else fillF sl n (firstS a b).1.emptied).nodes < (firstS a b).1.nodes := by
          cases hl : (firstS a b).1.leaf with
          | true => exact hn
          | false =>
            have h2 := (fill_nodes (sl := sl) n (firstS a b).1.emptied (by rw [emptied_nodes]; omega)).2 (emptied_goes hl)
            rw [emptied_nodes] at h2
            simpa using h2
        have h3 := (fill_nodes (sl := sl) n (.node r (firstS a b).1.key (row ++ (firstS a b).1.row) (if (firstS a b).1.leaf = true then SH.nil else fillF sl n (firstS a b).1.emptied) (firstS a b).2) (by
          show _ + _ + 1 ≤ n
          omega)).1
        have h4 : (fillF sl n (.node r (firstS a b).1.key (row ++ (firstS a b).1.row) (if (firstS a b).1.leaf = true then SH.nil else fillF sl n (firstS a b).1.emptied) (firstS a b).2)).nodes < a.nodes + b.nodes + 1 := by
          refine Nat.lt_of_le_of_lt h3 ?_
          show _ + _ + 1 < _
          omega
        exact ⟨Nat.le_of_lt h4, fun _ => h4⟩
theorem items_num (l : List (Int × Int)) : nums (l.map itD) = true := by
  induction l with
  | nil => rfl
  | cons p l ih =>
    show ((itD p).num && nums (l.map itD)) = true
    rw [ih]
    rfl
theorem sh_num : ∀ t : SH, nums t.l = true
  | .nil => rfl
  | .node r k row a b => by
    show (true && (true && (nums (row.map itD) && (nums a.l && (nums b.l && true))))) = true
    rw [items_num, sh_num a, sh_num b]
    rfl
theorem sh_empty (t : SH) : t.l.isEmpty = t.isNil := by cases t <;> rfl
def SH.rb : SH → Prop
  | .nil => True
  | .node r _ _ a b => 0 ≤ r ∧ r ≤ 500 ∧ a.rb ∧ b.rb
def SH.cnt : SH → Nat
  | .nil => 0
  | .node _ _ row a b => row.length + a.cnt + b.cnt
theorem firstS_cases (a b : SH) : firstS a b = (a, b) ∨ firstS a b = (b, a) := by
  unfold firstS
  split
  · exact .inr rfl
  · exact .inl rfl
theorem emptied_rb {t : SH} (h : t.rb) : t.emptied.rb := by cases t <;> exact h
theorem fill_rb {sl : Int} : ∀ (n : Nat) {t : SH}, t.rb → (fillF sl n t).rb
  | 0, _, h => h
  | n + 1, t, h => by
    unfold fillF
    split
    · rename_i hg
      cases t with
      | nil => cases hg
      | node r k row a b =>
        obtain ⟨h1, h2, h3, h4⟩ := h
        have hf : (firstS a b).1.rb ∧ (firstS a b).2.rb := by
          rcases firstS_cases a b with e | e <;> rw [e] <;> first | exact ⟨h3, h4⟩ | exact ⟨h4, h3⟩
        refine fill_rb n ⟨h1, h2, ?_, hf.2⟩
        show (if (firstS a b).1.leaf = true then SH.nil else fillF sl n (firstS a b).1.emptied).rb
        split
        · trivial
        · exact fill_rb n (emptied_rb hf.1)
    · exact h
theorem leaf_cnt {t : SH} (h : t.leaf = true) : t.cnt = t.row.length := by
  cases t with
  | nil => rfl
  | node r k row a b => cases a <;> cases b <;> first | (cases h; done) | rfl
theorem emptied_cnt (t : SH) : t.emptied.cnt + t.row.length = t.cnt := by
  cases t with
  | nil => rfl
  | node r k row a b =>
    show ([] : List (Int × Int)).length + a.cnt + b.cnt + row.length = row.length + a.cnt + b.cnt
    simp
    omega
theorem fill_cnt {sl : Int} : ∀ (n : Nat) (t : SH), (fillF sl n t).cnt = t.cnt
  | 0, _ => rfl
  | n + 1, t => by
    unfold fillF
    split
    · rename_i hg
      cases t with
      | nil => cases hg
      | node r k row a b =>
        rw [fill_cnt n]
        have hf : (firstS a b).1.cnt + (firstS a b).2.cnt = a.cnt + b.cnt := by
          rcases firstS_cases a b with e | e <;> rw [e] <;> simp <;> omega
        have hb : (if (firstS a b).1.leaf = true then SH.nil else fillF sl n (firstS a b).1.emptied).cnt + (firstS a b).1.row.length = (firstS a b).1.cnt := by
          split
          · rename_i hl
            rw [leaf_cnt hl]
            show 0 + _ = _
            omega
          · rw [fill_cnt n]
            exact emptied_cnt _
        show (row ++ (firstS a b).1.row).length + (if (firstS a b).1.leaf = true then SH.nil else fillF sl n (firstS a b).1.emptied).cnt + (firstS a b).2.cnt = row.length + a.cnt + b.cnt
        rw [List.length_append]
        omega
    · rfl
theorem fill_stop {sl : Int} {t : SH} (h : goesOn sl t = false) (n : Nat) : fillF sl n t = t := by
  cases n with
  | zero => rfl
  | succ n =>
    unfold fillF
    rw [h]
    rfl
theorem fill_go {sl r k : Int} {row : List (Int × Int)} {a b A B : SH} (h : goesOn sl (.node r k row a b) = true) (e : firstS a b = (A, B)) (n : Nat) :
    fillF sl (n + 1) (.node r k row a b) = fillF sl n (.node r A.key (row ++ A.row) (if A.leaf = true then .nil else fillF sl n A.emptied) B) := by
  show (if goesOn sl (.node r k row a b) = true then _ else _) = _
  rw [h, if_pos rfl]
  show fillF sl n (.node r (firstS a b).1.key (row ++ (firstS a b).1.row) (if (firstS a b).1.leaf = true then SH.nil else fillF sl n (firstS a b).1.emptied) (firstS a b).2) = _
  rw [e]
theorem ne_nil {S : Store} (t : SH) {K : Bool → Prop} (k : K (!t.isNil)) : cmpB .NotEq t.d (.tup []) S K := by
  show cEq t.d (.tup []) S fun b => K (!b)
  refine eq_nil_num (K := fun b => K (!b)) (sh_num t) ?_
  rw [sh_empty]
  exact k
theorem is_nil {S : Store} (t : SH) {K : Bool → Prop} (k : K t.isNil) : cmpB .Eq t.d (.tup []) S K := by
  show cEq t.d (.tup []) S K
  refine eq_nil_num (sh_num t) ?_
  rw [sh_empty]
  exact k
theorem firstS_cnt (a b : SH) : (firstS a b).1.cnt + (firstS a b).2.cnt = a.cnt + b.cnt := by
  rcases firstS_cases a b with e | e <;> rw [e] <;> simp <;> omega
theorem firstS_rb {a b : SH} (ha : a.rb) (hb : b.rb) : (firstS a b).1.rb ∧ (firstS a b).2.rb := by
  rcases firstS_cases a b with e | e <;> rw [e] <;> first | exact ⟨ha, hb⟩ | exact ⟨hb, ha⟩
end Mn
namespace Mn
open PySem
theorem pysF_map {α : Type} (f : α → D) (l : List α) : pys (l.map f) = l.map fun a => (f a).py := by
  induction l with
  | nil => rfl
  | cons a l ih =>
    show (f a).py :: pys (l.map f) = _
    rw [ih]
    rfl
theorem purs_map {α : Type} (f : α → D) (l : List α) (h : ∀ a ∈ l, (f a).pur = true) : purs (l.map f) = true := by
  induction l with
  | nil => rfl
  | cons a l ih =>
    show ((f a).pur && purs (l.map f)) = true
    rw [h a List.mem_cons_self, ih fun b hb => h b (List.mem_cons_of_mem _ hb)]
    rfl
theorem ord_ints (l : List Int) : OrdOk (l.map D.int) := by
  refine ⟨purs_map _ _ fun _ _ => rfl, ?_, .inr ?_, ?_⟩
  · rw [pysF_map]
    intro d hd d' hd'
    obtain ⟨a, _, rfl⟩ := List.mem_map.mp hd
    obtain ⟨b, _, rfl⟩ := List.mem_map.mp hd'
    simp [D.py, PySem.W.alike]
  · rw [pysF_map]
    intro d hd
    obtain ⟨a, _, rfl⟩ := List.mem_map.mp hd
    exact ⟨fun z => (by cases z), fun _ z => (by cases z)⟩
  · rw [pysF_map]
    intro d hd
    obtain ⟨a, _, rfl⟩ := List.mem_map.mp hd
    exact Nat.zero_le _
def itLt (p q : Int × Int) : Bool := decide (p.1 < q.1 ∨ (p.1 = q.1 ∧ p.2 < q.2))
theorem dlt_int (a b : Int) : PySem.W.dataLt (D.int a).py (D.int b).py = decide (a < b) := PySem.W.dataLt_int a b
theorem dlt_it (p q : Int × Int) : PySem.W.dataLt (itD p).py (itD q).py = itLt p q := PySem.W.dataLt_ii p.1 p.2 q.1 q.2
def maxI (a : Int) (l : List Int) : Int := l.foldl (fun x y => if x < y then y else x) a
def minI (a : Int) (l : List Int) : Int := l.foldl (fun x y => if y < x then y else x) a
theorem maxL_int (l : List Int) : ∀ a : Int, maxL (.int a) (l.map D.int) = .int (maxI a l) := by
  induction l with
  | nil => exact fun _ => rfl
  | cons b l ih =>
    intro a
    show maxL (if PySem.W.dataLt (D.int a).py (D.int b).py = true then .int b else .int a) (l.map D.int) = .int (maxI (if a < b then b else a) l)
    rw [dlt_int, ← ih]
    by_cases h : a < b <;> simp [h]
theorem minL_int (l : List Int) : ∀ a : Int, minL (.int a) (l.map D.int) = .int (minI a l) := by
  induction l with
  | nil => exact fun _ => rfl
  | cons b l ih =>
    intro a
    show minL (if PySem.W.dataLt (D.int b).py (D.int a).py = true then .int b else .int a) (l.map D.int) = .int (minI (if b < a then b else a) l)
    rw [dlt_int, ← ih]
    by_cases h : b < a <;> simp [h]
theorem maxI_spec (l : List Int) : ∀ a : Int, (maxI a l = a ∨ maxI a l ∈ l) ∧ a ≤ maxI a l ∧ ∀ x ∈ l, x ≤ maxI a l := by
  induction l with
  | nil => exact fun a => ⟨.inl rfl, Int.le_refl _, fun x hx => (nomatch hx)⟩
  | cons b l ih =>
    intro a
    obtain ⟨h1, h2, h3⟩ := ih (if a < b then b else a)
    show (maxI (if a < b then b else a) l = a ∨ _) ∧ _
    have hm : maxI a (b :: l) = maxI (if a < b then b else a) l := rfl
    rw [hm]
    refine ⟨?_, ?_, ?_⟩
    · rcases h1 with h | h
      · rw [h]
        split
        · exact .inr (by simp)
        · exact .inl rfl
      · exact .inr (List.mem_cons_of_mem _ h)
    · split at h2 <;> rename_i h <;> simp [h] <;> omega
    · intro x hx
      rcases List.mem_cons.mp hx with rfl | hx
      · split at h2 <;> rename_i h <;> simp [h] <;> omega
      · exact h3 x hx
theorem minI_spec (l : List Int) : ∀ a : Int, (minI a l = a ∨ minI a l ∈ l) ∧ minI a l ≤ a ∧ ∀ x ∈ l, minI a l ≤ x := by
  induction l with
  | nil => exact fun a => ⟨.inl rfl, Int.le_refl _, fun x hx => (nomatch hx)⟩
  | cons b l ih =>
    intro a
    obtain ⟨h1, h2, h3⟩ := ih (if b < a then b else a)
    have hm : minI a (b :: l) = minI (if b < a then b else a) l := rfl
    rw [hm]
    refine ⟨?_, ?_, ?_⟩
    · rcases h1 with h | h
      · rw [h]
        split
        · exact .inr (by simp)
        · exact .inl rfl
      · exact .inr (List.mem_cons_of_mem _ h)
    · split at h2 <;> rename_i h <;> simp [h] <;> omega
    · intro x hx
      rcases List.mem_cons.mp hx with rfl | hx
      · split at h2 <;> rename_i h <;> simp [h] <;> omega
      · exact h3 x hx
theorem sortD_map {α : Type} (f : α → D) (le : α → α → Bool) (h : ∀ a b, PySem.W.dataLe false D.py (f a) (f b) = le a b) (l : List α) : sortD (l.map f) = (l.mergeSort le).map f := by
  unfold sortD
  rw [List.map_mergeSort]
  intro a _ b _
  rw [h]
end Mn
namespace Mn
open PySem
theorem cs_cons {F : Sem} {c : C} {cs : Cs} {K : Ends} {ρ : Env} {S : Store} (h : wpC F c { K with nx := fun ρ1 S1 => wpCs F cs K ρ1 S1 } ρ S) : wpCs F (.cons c cs) K ρ S := h
def lcB (F : Sem) (t : Tg) (G : Store → Prop) (c e : E) (Q : Store → Prop) (n : Nat) (ρ : Env) (l acc : List D) (S : Store) : Prop := wpLc t G (fun ρ S Q => wpE F c ρ S Q noX) (fun ρ S Q => wpE F e ρ S Q noX) Q n ρ l acc S
def dcB (F : Sem) (t : Tg) (G : Store → Prop) (c e : E) (Q : Store → Prop) (n : Nat) (ρ : Env) (l : List D) (acc : List (Key × D)) (S : Store) : Prop := wpDc t G (fun ρ S Q => wpE F c ρ S Q noX) (fun ρ S Q => wpE F e ρ S Q noX) Q n ρ l acc S
def whB (F : Sem) (c : E) (b : Cs) (K : Ends) (ρ : Env) (S : Store) : Prop := ∃ n, wpWh (fun ρ S Q => wpE F c ρ S Q K.xc) (wpCs F b) K n ρ S
def forB (F : Sem) (t : Tg) (G : Store → Prop) (b : Cs) (K : Ends) (l : List D) (ρ : Env) (S : Store) : Prop := wpFor t G (wpCs F b) K l ρ S
def lenOk (ds : List D) : Prop := ds.length ≤ lim
section
variable (F : Sem) (ρ : Env) (S : Store) (Q : DK) (X : XK)
theorem e_no : wpE F .no ρ S Q X = Q .non S := rfl
theorem e_v (i : Nat) : wpE F (.v i) ρ S Q X = (match ρ[i]? with | some (some d) => Q d S | _ => False) := rfl
theorem e_cst (d : D) : wpE F (.cst d) ρ S Q X = Q d S := rfl
theorem e_and (a b : E) : wpE F (.and a b) ρ S Q X = wpE F a ρ S (fun x S1 => match x with | .bl true => wpE F b ρ S1 Q X | .bl false => Q (.bl false) S1 | _ => False) X := rfl
theorem e_or (a b : E) : wpE F (.or a b) ρ S Q X = wpE F a ρ S (fun x S1 => match x with | .bl true => Q (.bl true) S1 | .bl false => wpE F b ρ S1 Q X | _ => False) X := rfl
theorem e_not (a : E) : wpE F (.not a) ρ S Q X = wpE F a ρ S (fun x S1 => match x with | .bl b => Q (.bl (!b)) S1 | _ => False) X := rfl
theorem e_ite (c a b : E) : wpE F (.ite c a b) ρ S Q X = wpE F c ρ S (fun x S1 => match x with | .bl true => wpE F a ρ S1 Q X | .bl false => wpE F b ρ S1 Q X | _ => False) X := rfl
theorem e_bin (op : Operator) (a b : E) : wpE F (.bin op a b) ρ S Q X = wpE F a ρ S (fun x S1 => wpE F b ρ S1 (fun y S2 => bop op x y S2 Q) X) X := rfl
theorem e_neg (a : E) : wpE F (.neg a) ρ S Q X = wpE F a ρ S (fun x S1 => match x with | .int i => Q (.int (-i)) S1 | _ => False) X := rfl
theorem e_cmp (op : CmpOp) (a b : E) : wpE F (.cmp op a b) ρ S Q X = wpE F a ρ S (fun x S1 => wpE F b ρ S1 (fun y S2 => cmpB op x y S2 fun k => Q (.bl k) S2) X) X := rfl
theorem e_chn (op op2 : CmpOp) (a b c : E) : wpE F (.chn op op2 a b c) ρ S Q X = wpE F a ρ S (fun x S1 => wpE F b ρ S1 (fun y S2 => cmpB op x y S2 fun k => match k with
      | true => wpE F c ρ S2 (fun z S3 => cmpB op2 y z S3 fun k2 => Q (.bl k2) S3) X
      | false => Q (.bl false) S2) X) X := rfl
theorem e_ix (a i : E) : wpE F (.ix a i) ρ S Q X = wpE F a ρ S (fun x S1 => wpE F i ρ S1 (fun y S2 => ixD x y S2 Q) X) X := rfl
theorem e_sl (a lo hi : E) : wpE F (.sl a lo hi) ρ S Q X = wpE F a ρ S (fun x S1 => wpE F lo ρ S1 (fun y S2 => match optP lo y with
      | some l => wpE F hi ρ S2 (fun z S3 => match optP hi z with
        | some h => slD x l h S3 Q
        | none => False) X
      | none => False) X) X := rfl
theorem e_skl (i : Int) (a : E) : wpE F (.skl i a) ρ S Q X = wpE F a ρ S (fun x S1 => sklD i x S1 Q) X := rfl
def revD (x : D) (S : Store) (Q : DK) : Prop := match x with
  | .tup l => Q (.tup l.reverse) S
  | x => (match lq? S x with | some l => Q (.ref S.length) (S ++ [.lst l.reverse]) | none => False)
theorem e_rev (a : E) : wpE F (.rev a) ρ S Q X = wpE F a ρ S (fun x S1 => revD x S1 Q) X := rfl
theorem e_dct (ks vs : Es) : wpE F (.dct ks vs) ρ S Q X = wpEs F ks ρ S (fun xs S1 => wpEs F vs ρ S1 (fun ys S2 => match dLit xs ys with
      | some kvs => Q (.ref S2.length) (S2 ++ [.dct kvs])
      | none => False) X) X := rfl
theorem e_bm (m : Bm) (o : E) (es : Es) : wpE F (.bm m o es) ρ S Q X = wpE F o ρ S (fun x S1 => recv m x S1 = true ∧ wpEs F es ρ S1 (fun ds S2 => bm m x ds S2 Q) X) X := rfl
def attrD (c : Nat) (f : Str) (x : D) (S : Store) (Q : DK) : Prop := match inst? S x with
      | some (c', fs) => (match fs.lookup f with | some d => c' = c ∧ Q d S | none => False)
      | none => False
theorem e_attr (c : Nat) (o : E) (f : Str) : wpE F (.attr c o f) ρ S Q X = wpE F o ρ S (fun x S1 => attrD c f x S1 Q) X := rfl
def methD (c : Nat) (m : Str) (x : D) (S : Store) (q : Prop) : Prop := match inst? S x with
      | some (c', fs) => c' = c ∧ fs.lookup m = none ∧ q
      | none => False
theorem e_meth (c : Nat) (m : Str) (f : Nat) (o : E) (es : Es) : wpE F (.meth c m f o es) ρ S Q X = wpE F o ρ S (fun x S1 => methD c m x S1 (wpEs F es ρ S1 (fun ds S2 => F f (x :: ds) S2 Q X) X)) X := rfl
theorem e_make (c f : Nat) (es : Es) : wpE F (.make c f es) ρ S Q X = wpEs F es ρ S (fun ds S1 => F f (.ref S1.length :: ds) (S1 ++ [.ins c []]) (fun d S2 => d = .non ∧ Q (.ref S1.length) S2) X) X := rfl
def lc2B (F : Sem) (t : Tg) (G : Store → Prop) (it1 : It) (t1 : Tg) (own1 : List Nat) (e : E) (Q : Store → Prop) (n : Nat) (ρ : Env) (l acc : List D) (S : Store) : Prop := wpLc2 t G (fun ρ S R => wpIt F it1 ρ S R noX) t1 own1 (fun ρ S Q => wpE F e ρ S Q noX) Q n ρ l acc S
theorem e_lc2 (own : List Nat) (t : Tg) (it : It) (own1 : List Nat) (t1 : Tg) (it1 : It) (e : E) : wpE F (.lc2 own t it own1 t1 it1 e) ρ S Q X = wpIt F it ρ S (fun l G S1 => lc2B F t G it1 t1 own1 e (fun S2 => Q (.ref S1.length) S2) S1.length (wipeE ρ own) l [] (S1 ++ [.lst []])) X := rfl
theorem e_lc (own : List Nat) (t : Tg) (it : It) (c e : E) : wpE F (.lc own t it c e) ρ S Q X = wpIt F it ρ S (fun l G S1 => lcB F t G c e (fun S2 => Q (.ref S1.length) S2) S1.length (wipeE ρ own) l [] (S1 ++ [.lst []])) X := rfl
theorem e_dsp (ks : List (Sum Key Nat)) (vs : Es) : wpE F (.dsp ks vs) ρ S Q X = (match keysAt ρ ks with
    | some kk => wpEs F vs ρ (S ++ [.dct []]) (fun ds S2 => ds.length = kk.length ∧ S2[S.length]? = some (.dct []) ∧ Q (.ref S.length) (S2.set S.length (.dct (mergeD [] (kk.zip ds))))) X
    | none => False) := rfl
theorem ka_nil : keysAt ρ [] = some [] := rfl
theorem ka_c (k : Key) (r : List (Sum Key Nat)) : keysAt ρ (.inl k :: r) = (keysAt ρ r).map (k :: ·) := rfl
def toldX (ws : List (Nat × Str)) (q : Str → Prop) (c : Nat) : Prop := match ws.lookup c with | some w => q w | none => False
theorem e_ind (neg : Bool) (a b : E) : wpE F (.ind neg a b) ρ S Q X = wpE F a ρ S (fun x S1 => wpE F b ρ S1 (fun y S2 => inD x y S2 fun k => Q (.bl (if neg then !k else k)) S2) X) X := rfl
def orvD (x : D) (p : Prop) (q : D → Prop) : Prop := match x with | .non => p | .int i => (if i = 0 then p else q (.int i)) | _ => False
theorem e_orv (a b : E) : wpE F (.orv a b) ρ S Q X = wpE F a ρ S (fun x S1 => orvD x (wpE F b ρ S1 Q X) fun y => Q y S1) X := rfl
theorem e_nild (a b : E) : wpE F (.nild a b) ρ S Q X = wpE F a ρ S (fun x S1 => wpE F b ρ S1 (fun y S2 => nilD x y S2 fun k => Q (.bl k) S2) X) X := rfl
theorem e_lenO (e : E) : wpE F (.lenO e) ρ S Q X = wpE F e ρ S (fun d S1 => lenOD d fun n => Q (.int n) S1) X := rfl
theorem e_inR (neg : Bool) (x a b : E) : wpE F (.inR neg x a b) ρ S Q X = wpE F x ρ S (fun x S1 => wpE F a ρ S1 (fun y S2 => wpE F b ρ S2 (fun z S3 => inRD neg x y z S3 Q) X) X) X := rfl
theorem e_methk (c : Nat) (m : Str) (f : Nat) (o : E) (es : Es) (d : Option D) (ks : Es) : wpE F (.methk c m f o es d ks) ρ S Q X = wpE F o ρ S (fun x S1 => methD c m x S1 (wpEs F es ρ S1 (fun ds S2 => wpEs F ks ρ S2 (fun zs S3 => F f ((x :: ds) ++ arrK d zs) S3 Q X) X) X)) X := rfl
def valsB (x : D) (S : Store) (R : List D → (Store → Prop) → Store → Prop) : Prop := match x with
    | .ref n => (match S[n]? with
      | some (.fdct kvs) => R (kvs.map fun kv => kv.2) (fun S => S[n]? = some (.fdct kvs)) S
      | _ => False)
    | _ => False
theorem e_gix (g : Str) (kvs : List (Str × Int)) (i : E) : wpE F (.gix g kvs i) ρ S Q X = wpE F i ρ S (fun y S1 => gixD kvs y S1 Q) X := rfl
theorem e_dctP : wpE F .dctP ρ S Q X = Q (.ref S.length) (S ++ [.dtp []]) := rfl
theorem e_dictF (e : E) : wpE F (.dictF e) ρ S Q X = wpE F e ρ S (fun x S1 => dictFD x S1 Q) X := rfl
theorem e_ixF (o k : E) : wpE F (.ixF o k) ρ S Q X = wpE F o ρ S (fun x S1 => wpE F k ρ S1 (fun y S2 => ixFD x y S2 Q) X) X := rfl
theorem e_minF (o : E) : wpE F (.minF o) ρ S Q X = wpE F o ρ S (fun x S1 => minFD x S1 Q) X := rfl
theorem e_ixP (o a b : E) : wpE F (.ixP o a b) ρ S Q X = wpE F o ρ S (fun x S1 => wpE F a ρ S1 (fun y S2 => wpE F b ρ S2 (fun z S3 => pIx x y z S3 Q) X) X) X := rfl
theorem e_inP (neg : Bool) (a b o : E) : wpE F (.inP neg a b o) ρ S Q X = wpE F a ρ S (fun y S1 => wpE F b ρ S1 (fun z S2 => wpE F o ρ S2 (fun x S3 => pIn y z x S3 fun k => Q (.bl (if neg then !k else k)) S3) X) X) X := rfl
theorem e_told (ws : List (Nat × Str)) (e : E) : wpE F (.told ws e) ρ S Q X = wpE F e ρ S (fun x S1 => Q (.tup [.str "told", x]) S1) (fun c S1 => toldX ws (fun w => Q (.str w) S1) c) := rfl
theorem e_dc (own : List Nat) (t : Tg) (it : It) (c e : E) : wpE F (.dc own t it c e) ρ S Q X = wpIt F it ρ S (fun l G S1 => dcB F t G c e (fun S2 => Q (.ref S1.length) S2) S1.length (wipeE ρ own) l [] (S1 ++ [.dct []])) X := rfl
theorem e_tup (es : Es) : wpE F (.tup es) ρ S Q X = wpEs F es ρ S (fun ds S1 => lenOk ds ∧ Q (.tup ds) S1) X := rfl
theorem e_lst (es : Es) : wpE F (.lst es) ρ S Q X = wpEs F es ρ S (fun ds S1 => lenOk ds ∧ Q (.ref S1.length) (S1 ++ [.lst ds])) X := rfl
theorem e_call (f : Nat) (es : Es) : wpE F (.call f es) ρ S Q X = wpEs F es ρ S (fun ds S1 => F f ds S1 Q X) X := rfl
theorem e_calld (f : Nat) (es : Es) (d : D) : wpE F (.calld f es d) ρ S Q X = wpEs F es ρ S (fun ds S1 => F f (ds ++ [d]) S1 Q X) X := rfl
theorem e_callk (f : Nat) (es : Es) (k : E) : wpE F (.callk f es k) ρ S Q X = wpEs F es ρ S (fun ds S1 => wpE F k ρ S1 (fun z S2 => F f (ds ++ [z]) S2 Q X) X) X := rfl
theorem e_blt (b : Bt) (es : Es) : wpE F (.blt b es) ρ S Q X = wpEs F es ρ S (fun ds S1 => bt b ds S1 Q) X := rfl
theorem es_n (Q : List D → Store → Prop) : wpEs F .nil ρ S Q X = Q [] S := rfl
theorem es_c (e : E) (es : Es) (Q : List D → Store → Prop) : wpEs F (.cons e es) ρ S Q X = wpE F e ρ S (fun x S1 => wpEs F es ρ S1 (fun xs S2 => Q (x :: xs) S2) X) X := rfl
variable (R : List D → (Store → Prop) → Store → Prop)
theorem i_seq (e : E) : wpIt F (.seq e) ρ S R X = wpE F e ρ S (fun x S1 => itSeq x S1 fun l G => R l G S1) X := rfl
theorem i_enum (e : E) : wpIt F (.enum e) ρ S R X = wpE F e ρ S (fun x S1 => itSeq x S1 fun l G => R (enumL l) G S1) X := rfl
def rngB (f : Int → Int → List D) (x y : D) (S : Store) (R : List D → (Store → Prop) → Store → Prop) : Prop := match x, y with
    | .int i, .int j => -1000000 ≤ i ∧ i ≤ 1000000 ∧ -1000000 ≤ j ∧ j ≤ 1000000 ∧ R (f i j) (fun _ => True) S
    | _, _ => False
theorem rng_go {f : Int → Int → List D} {i j : Int} {S : Store} {R : List D → (Store → Prop) → Store → Prop} (h1 : -1000000 ≤ i) (h2 : i ≤ 1000000) (h3 : -1000000 ≤ j) (h4 : j ≤ 1000000) (q : R (f i j) (fun _ => True) S) : rngB f (.int i) (.int j) S R := ⟨h1, h2, h3, h4, q⟩
theorem i_rng (a b : E) : wpIt F (.rng a b) ρ S R X = wpE F a ρ S (fun x S1 => wpE F b ρ S1 (fun y S2 => rngB rngL x y S2 R) X) X := rfl
theorem i_rngd (a b : E) : wpIt F (.rngd a b) ρ S R X = wpE F a ρ S (fun x S1 => wpE F b ρ S1 (fun y S2 => rngB rngD x y S2 R) X) X := rfl
theorem i_rng2 (a b : E) : wpIt F (.rng2 a b) ρ S R X = wpE F a ρ S (fun x S1 => wpE F b ρ S1 (fun y S2 => rngB rng2L x y S2 R) X) X := rfl
def keysB (x : D) (S : Store) (R : List D → (Store → Prop) → Store → Prop) : Prop := match x with
    | .ref n => (match S[n]? with
      | some (.dct kvs) => R (kvs.map fun kv => keyD kv.1) (fun S => S[n]? = some (.fdct kvs)) (S.set n (.fdct kvs))
      | some (.fdct kvs) => R (kvs.map fun kv => keyD kv.1) (fun S => S[n]? = some (.fdct kvs)) S
      | _ => False)
    | _ => False
theorem keys_go {n : Nat} {kvs : List (Key × D)} {S : Store} {R : List D → (Store → Prop) → Store → Prop} (h : S[n]? = some (.dct kvs)) (q : R (kvs.map fun kv => keyD kv.1) (fun S => S[n]? = some (.fdct kvs)) (S.set n (.fdct kvs))) : keysB (.ref n) S R := by
  unfold keysB
  dsimp only
  rw [h]
  exact q
def charsB (x : D) (S : Store) (R : List D → (Store → Prop) → Store → Prop) : Prop := match x with
    | .str z => R (charsL z) (fun _ => True) S
    | _ => False
theorem i_chars (e : E) : wpIt F (.chars e) ρ S R X = wpE F e ρ S (fun x S1 => charsB x S1 R) X := rfl
theorem i_vals (e : E) : wpIt F (.vals e) ρ S R X = wpE F e ρ S (fun x S1 => valsB x S1 R) X := rfl
theorem i_keys (e : E) : wpIt F (.keys e) ρ S R X = wpE F e ρ S (fun x S1 => keysB x S1 R) X := rfl
variable (K : Ends)
theorem c_set (i : Nat) (e : E) : wpC F (.set i e) K ρ S = wpE F e ρ S (fun x S1 => K.nx (ρ.set i (some x)) S1) K.xc := rfl
theorem c_asg (t : Tg) (e : E) : wpC F (.asg t e) K ρ S = wpE F e ρ S (fun x S1 => match t.bind x ρ with | some ρ1 => K.nx ρ1 S1 | none => False) K.xc := rfl
theorem c_asgm (ts : List Tm) (e : E) : wpC F (.asgm ts e) K ρ S = wpE F e ρ S (fun x S1 => match x with | .tup ds => ds.length = ts.length ∧ wpTms F ts ds K.nx ρ S1 K.xc | _ => False) K.xc := rfl
theorem tm_n (nx : Env → Store → Prop) : wpTms F [] [] nx ρ S X = nx ρ S := rfl
theorem tm_t (t : Tg) (ts : List Tm) (d : D) (r : List D) (nx : Env → Store → Prop) : wpTms F (.tg t :: ts) (d :: r) nx ρ S X = (match t.bind d ρ with | some ρ1 => wpTms F ts r nx ρ1 S X | none => False) := rfl
theorem tm_s (o i : E) (ts : List Tm) (d : D) (r : List D) (nx : Env → Store → Prop) : wpTms F (.sub o i :: ts) (d :: r) nx ρ S X = wpE F o ρ S (fun y S2 => wpE F i ρ S2 (fun z S3 => setIx y z d S3 fun S4 => wpTms F ts r nx ρ S4 X) X) X := rfl
theorem tm_a (c : Nat) (o : E) (f : Str) (ts : List Tm) (d : D) (r : List D) (nx : Env → Store → Prop) : wpTms F (.att c o f :: ts) (d :: r) nx ρ S X = wpE F o ρ S (fun y S2 => setAt c f y d S2 fun S3 => wpTms F ts r nx ρ S3 X) X := rfl
theorem c_par (i j : Nat) (a b : E) : wpC F (.par i j a b) K ρ S = wpE F a ρ S (fun x S1 => wpE F b ρ S1 (fun y S2 => K.nx ((ρ.set i (some x)).set j (some y)) S2) K.xc) K.xc := rfl
theorem c_star (i j : Nat) (e : E) : wpC F (.star i j e) K ρ S = wpE F e ρ S (fun x S1 => match x with
    | .tup (d :: r) => K.nx ((ρ.set i (some d)).set j (some (.ref S1.length))) (S1 ++ [.lst r])
    | _ => False) K.xc := rfl
def unpD (x : D) (S : Store) (q : D → D → Prop) : Prop := match lq? S x with
    | some [a, b] => q a b
    | _ => False
theorem c_unp (i j : Nat) (e : E) : wpC F (.unp i j e) K ρ S = wpE F e ρ S (fun x S1 => unpD x S1 fun a b => K.nx ((ρ.set i (some a)).set j (some b)) S1) K.xc := rfl
theorem c_setA (c : Nat) (o : E) (f : Str) (e : E) : wpC F (.setA c o f e) K ρ S = wpE F e ρ S (fun x S1 => wpE F o ρ S1 (fun y S2 => setAt c f y x S2 fun S3 => K.nx ρ S3) K.xc) K.xc := rfl
theorem c_aug (i : Nat) (op : Operator) (e : E) : wpC F (.aug i op e) K ρ S = (match ρ[i]? with
    | some (some x) => wpE F e ρ S (fun y S1 => iop op x y S1 fun z S2 => K.nx (ρ.set i (some z)) S2) K.xc
    | _ => False) := rfl
theorem c_augA (c : Nat) (o : E) (f : Str) (op : Operator) (e : E) : wpC F (.augA c o f op e) K ρ S = wpE F o ρ S (fun x S1 => attrD c f x S1 fun d S1 => wpE F e ρ S1 (fun y S2 => iop op d y S2 fun z S3 => setAt c f x z S3 fun S4 => K.nx ρ S4) K.xc) K.xc := rfl
theorem c_augX (o i : E) (op : Operator) (e : E) : wpC F (.augX o i op e) K ρ S = wpE F o ρ S (fun x S1 => wpE F i ρ S1 (fun y S2 => ixD x y S2 fun z S3 => wpE F e ρ S3 (fun w S4 => iop op z w S4 fun r S5 => setIx x y r S5 fun S6 => K.nx ρ S6) K.xc) K.xc) K.xc := rfl
theorem c_pass : wpC F .pass K ρ S = K.nx ρ S := rfl
theorem c_raise (c : Nat) : wpC F (.raise c) K ρ S = K.xc c S := rfl
theorem c_setP (o a b e : E) : wpC F (.setP o a b e) K ρ S = wpE F e ρ S (fun x S1 => wpE F o ρ S1 (fun y S2 => wpE F a ρ S2 (fun z S3 => wpE F b ρ S3 (fun w S4 => pSet y z w x S4 fun S5 => K.nx ρ S5) K.xc) K.xc) K.xc) K.xc := rfl
theorem c_setIx (o i e : E) : wpC F (.setIx o i e) K ρ S = wpE F e ρ S (fun x S1 => wpE F o ρ S1 (fun y S2 => wpE F i ρ S2 (fun z S3 => setIx y z x S3 fun S4 => K.nx ρ S4) K.xc) K.xc) K.xc := rfl
theorem c_ret (e : E) : wpC F (.ret e) K ρ S = wpE F e ρ S K.rt K.xc := rfl
theorem c_ex (e : E) : wpC F (.ex e) K ρ S = wpE F e ρ S (fun _ S1 => K.nx ρ S1) K.xc := rfl
theorem c_cond (c : E) (a b : Cs) : wpC F (.cond c a b) K ρ S = wpE F c ρ S (fun x S1 => match x with | .bl true => wpCs F a K ρ S1 | .bl false => wpCs F b K ρ S1 | _ => False) K.xc := rfl
theorem c_whl (c : E) (b : Cs) : wpC F (.whl c b) K ρ S = whB F c b K ρ S := rfl
theorem c_for (t : Tg) (it : It) (b : Cs) : wpC F (.for_ t it b) K ρ S = wpIt F it ρ S (fun l G S1 => forB F t G b K l ρ S1) K.xc := rfl
theorem cs_n : wpCs F .nil K ρ S = K.nx ρ S := rfl
end
theorem lcB_map {P : Prog} {m : Nat} {t : Tg} {G : Store → Prop} {c e : E} {Q : Store → Prop} {ρ : Env} {S1 : Store} (p : D → Bool) (f : D → D) {l : List D} {acc : List D} (hG : ∀ acc, G (S1 ++ [.lst acc])) (hl : acc.length + l.length ≤ 1000000)
    (hs : ∀ d ∈ l, ∃ ρ1, t.bind d ρ = some ρ1 ∧ ∀ acc, (∀ K : DK, K (.bl (p d)) (S1 ++ [.lst acc]) → wpE (callZ P m) c ρ1 (S1 ++ [.lst acc]) K noX) ∧ (p d = true → ∀ K : DK, K (f d) (S1 ++ [.lst acc]) → wpE (callZ P m) e ρ1 (S1 ++ [.lst acc]) K noX))
    (q : Q (S1 ++ [.lst (acc ++ (l.filter p).map f)])) : lcB (callZ P m) t G c e Q S1.length ρ l acc (S1 ++ [.lst acc]) := lc_map (tmono _) (tmono _) p f l acc hG hl hs q
theorem lcB_at {P : Prog} {m : Nat} {t : Tg} {G : Store → Prop} {c e : E} {Q : Store → Prop} {n : Nat} {ρ : Env} (l : List D) (I : Nat → List D → Store → Prop) (hG : ∀ i acc S, I i acc S → G S) (hend : ∀ acc S, I l.length acc S → Q S)
    (hs : ∀ i d, l[i]? = some d → ∀ acc S, I i acc S → ∃ ρ1, t.bind d ρ = some ρ1 ∧ wpE (callZ P m) c ρ1 S (fun x S1 => match x with
      | .bl true => wpE (callZ P m) e ρ1 S1 (fun y S2 => S2[n]? = some (.lst acc) ∧ acc.length < 1000000 ∧ I (i + 1) (acc ++ [y]) (S2.set n (.lst (acc ++ [y])))) noX
      | .bl false => I (i + 1) acc S1
      | _ => False) noX) {acc : List D} {S : Store} (h : I 0 acc S) : lcB (callZ P m) t G c e Q n ρ l acc S := lc_at (tmono _) (tmono _) l I hG hend hs h
theorem whB_at {P : Prog} {m : Nat} {c : E} {b : Cs} {K : Ends} (I : Nat → Env → Store → Prop)
    (hs : ∀ n ρ S, I n ρ S → ∀ N : Env → Store → Prop, (∀ m ρ S, m < n → I m ρ S → N ρ S) → wpE (callZ P m) c ρ S (fun x S1 => match x with
      | .bl true => wpCs (callZ P m) b { K with nx := N, ct := N, bk := K.nx } ρ S1
      | .bl false => K.nx ρ S1
      | _ => False) K.xc) (n : Nat) {ρ : Env} {S : Store} (h : I n ρ S) : whB (callZ P m) c b K ρ S :=
  wh_at (tmono _) (bmono _) I (fun n ρ S h => hs n ρ S h _ fun m ρ S h1 h2 => ⟨m, h1, h2⟩) n h
theorem forB_at {P : Prog} {m : Nat} {t : Tg} {G : Store → Prop} {b : Cs} {K : Ends} (l : List D) (I : Nat → Env → Store → Prop) (hG : ∀ i ρ S, I i ρ S → G S) (hend : ∀ ρ S, I l.length ρ S → K.nx ρ S)
    (hs : ∀ i d, l[i]? = some d → ∀ ρ S, I i ρ S → ∀ N : Env → Store → Prop, (∀ ρ S, I (i + 1) ρ S → N ρ S) → ∃ ρ1, t.bind d ρ = some ρ1 ∧ wpCs (callZ P m) b { K with nx := N, ct := N, bk := K.nx } ρ1 S) {ρ : Env} {S : Store} (h : I 0 ρ S) : forB (callZ P m) t G b K l ρ S :=
  for_at (bmono _) l I hG hend (fun i d hd ρ S h => hs i d hd ρ S h _ fun _ _ z => z) h
theorem rng_get {a b : Int} {i : Nat} {d : D} (h : (rngL a b)[i]? = some d) : d = .int (a + i) ∧ (i : Int) < b - a := by
  unfold rngL at h
  rw [List.getElem?_map] at h
  cases hr : (List.range (b - a).toNat)[i]? with
  | none => rw [hr] at h; cases h
  | some j =>
    rw [hr] at h
    have hlt : i < (b - a).toNat := by
      have := (List.getElem?_eq_some_iff.mp hr).1
      rwa [List.length_range] at this
    rw [List.getElem?_range hlt] at hr
    cases hr
    cases h
    exact ⟨rfl, by omega⟩
theorem nle0 {a b : Nat} (h : Nat.ble a b = true := by rfl) : a ≤ b := Nat.le_of_ble_eq_true h
theorem r_l0 : lenOk [] = True := eq_true (show _ ≤ _ from nle0)
theorem r_l1 (a0 : D) : lenOk [a0] = True := eq_true (show _ ≤ _ from nle0)
theorem r_l2 (a0 a1 : D) : lenOk [a0, a1] = True := eq_true (show _ ≤ _ from nle0)
theorem r_l3 (a0 a1 a2 : D) : lenOk [a0, a1, a2] = True := eq_true (show _ ≤ _ from nle0)
theorem r_l4 (a0 a1 a2 a3 : D) : lenOk [a0, a1, a2, a3] = True := eq_true (show _ ≤ _ from nle0)
theorem r_l5 (a0 a1 a2 a3 a4 : D) : lenOk [a0, a1, a2, a3, a4] = True := eq_true (show _ ≤ _ from nle0)
theorem r_l6 (a0 a1 a2 a3 a4 a5 : D) : lenOk [a0, a1, a2, a3, a4, a5] = True := eq_true (show _ ≤ _ from nle0)
theorem r_l7 (a0 a1 a2 a3 a4 a5 a6 : D) : lenOk [a0, a1, a2, a3, a4, a5, a6] = True := eq_true (show _ ≤ _ from nle0)
theorem r_l8 (a0 a1 a2 a3 a4 a5 a6 a7 : D) : lenOk [a0, a1, a2, a3, a4, a5, a6, a7] = True := eq_true (show _ ≤ _ from nle0)
theorem r_l9 (a0 a1 a2 a3 a4 a5 a6 a7 a8 : D) : lenOk [a0, a1, a2, a3, a4, a5, a6, a7, a8] = True := eq_true (show _ ≤ _ from nle0)
theorem r_l10 (a0 a1 a2 a3 a4 a5 a6 a7 a8 a9 : D) : lenOk [a0, a1, a2, a3, a4, a5, a6, a7, a8, a9] = True := eq_true (show _ ≤ _ from nle0)
theorem r_l11 (a0 a1 a2 a3 a4 a5 a6 a7 a8 a9 a10 : D) : lenOk [a0, a1, a2, a3, a4, a5, a6, a7, a8, a9, a10] = True := eq_true (show _ ≤ _ from nle0)
theorem r_l12 (a0 a1 a2 a3 a4 a5 a6 a7 a8 a9 a10 a11 : D) : lenOk [a0, a1, a2, a3, a4, a5, a6, a7, a8, a9, a10, a11] = True := eq_true (show _ ≤ _ from nle0)
theorem r_l13 (a0 a1 a2 a3 a4 a5 a6 a7 a8 a9 a10 a11 a12 : D) : lenOk [a0, a1, a2, a3, a4, a5, a6, a7, a8, a9, a10, a11, a12] = True := eq_true (show _ ≤ _ from nle0)
theorem r_l14 (a0 a1 a2 a3 a4 a5 a6 a7 a8 a9 a10 a11 a12 a13 : D) : lenOk [a0, a1, a2, a3, a4, a5, a6, a7, a8, a9, a10, a11, a12, a13] = True := eq_true (show _ ≤ _ from nle0)
theorem r_l15 (a0 a1 a2 a3 a4 a5 a6 a7 a8 a9 a10 a11 a12 a13 a14 : D) : lenOk [a0, a1, a2, a3, a4, a5, a6, a7, a8, a9, a10, a11, a12, a13, a14] = True := eq_true (show _ ≤ _ from nle0)
theorem r_l16 (a0 a1 a2 a3 a4 a5 a6 a7 a8 a9 a10 a11 a12 a13 a14 a15 : D) : lenOk [a0, a1, a2, a3, a4, a5, a6, a7, a8, a9, a10, a11, a12, a13, a14, a15] = True := eq_true (show _ ≤ _ from nle0)
theorem r_l17 (a0 a1 a2 a3 a4 a5 a6 a7 a8 a9 a10 a11 a12 a13 a14 a15 a16 : D) : lenOk [a0, a1, a2, a3, a4, a5, a6, a7, a8, a9, a10, a11, a12, a13, a14, a15, a16] = True := eq_true (show _ ≤ _ from nle0)
theorem r_l18 (a0 a1 a2 a3 a4 a5 a6 a7 a8 a9 a10 a11 a12 a13 a14 a15 a16 a17 : D) : lenOk [a0, a1, a2, a3, a4, a5, a6, a7, a8, a9, a10, a11, a12, a13, a14, a15, a16, a17] = True := eq_true (show _ ≤ _ from nle0)
theorem r_l19 (a0 a1 a2 a3 a4 a5 a6 a7 a8 a9 a10 a11 a12 a13 a14 a15 a16 a17 a18 : D) : lenOk [a0, a1, a2, a3, a4, a5, a6, a7, a8, a9, a10, a11, a12, a13, a14, a15, a16, a17, a18] = True := eq_true (show _ ≤ _ from nle0)
theorem r_l20 (a0 a1 a2 a3 a4 a5 a6 a7 a8 a9 a10 a11 a12 a13 a14 a15 a16 a17 a18 a19 : D) : lenOk [a0, a1, a2, a3, a4, a5, a6, a7, a8, a9, a10, a11, a12, a13, a14, a15, a16, a17, a18, a19] = True := eq_true (show _ ≤ _ from nle0)
theorem r_l21 (a0 a1 a2 a3 a4 a5 a6 a7 a8 a9 a10 a11 a12 a13 a14 a15 a16 a17 a18 a19 a20 : D) : lenOk [a0, a1, a2, a3, a4, a5, a6, a7, a8, a9, a10, a11, a12, a13, a14, a15, a16, a17, a18, a19, a20] = True := eq_true (show _ ≤ _ from nle0)
theorem r_l22 (a0 a1 a2 a3 a4 a5 a6 a7 a8 a9 a10 a11 a12 a13 a14 a15 a16 a17 a18 a19 a20 a21 : D) : lenOk [a0, a1, a2, a3, a4, a5, a6, a7, a8, a9, a10, a11, a12, a13, a14, a15, a16, a17, a18, a19, a20, a21] = True := eq_true (show _ ≤ _ from nle0)
theorem r_l23 (a0 a1 a2 a3 a4 a5 a6 a7 a8 a9 a10 a11 a12 a13 a14 a15 a16 a17 a18 a19 a20 a21 a22 : D) : lenOk [a0, a1, a2, a3, a4, a5, a6, a7, a8, a9, a10, a11, a12, a13, a14, a15, a16, a17, a18, a19, a20, a21, a22] = True := eq_true (show _ ≤ _ from nle0)
theorem r_l24 (a0 a1 a2 a3 a4 a5 a6 a7 a8 a9 a10 a11 a12 a13 a14 a15 a16 a17 a18 a19 a20 a21 a22 a23 : D) : lenOk [a0, a1, a2, a3, a4, a5, a6, a7, a8, a9, a10, a11, a12, a13, a14, a15, a16, a17, a18, a19, a20, a21, a22, a23] = True := eq_true (show _ ≤ _ from nle0)
theorem r_l25 (a0 a1 a2 a3 a4 a5 a6 a7 a8 a9 a10 a11 a12 a13 a14 a15 a16 a17 a18 a19 a20 a21 a22 a23 a24 : D) : lenOk [a0, a1, a2, a3, a4, a5, a6, a7, a8, a9, a10, a11, a12, a13, a14, a15, a16, a17, a18, a19, a20, a21, a22, a23, a24] = True := eq_true (show _ ≤ _ from nle0)
theorem r_l26 (a0 a1 a2 a3 a4 a5 a6 a7 a8 a9 a10 a11 a12 a13 a14 a15 a16 a17 a18 a19 a20 a21 a22 a23 a24 a25 : D) : lenOk [a0, a1, a2, a3, a4, a5, a6, a7, a8, a9, a10, a11, a12, a13, a14, a15, a16, a17, a18, a19, a20, a21, a22, a23, a24, a25] = True := eq_true (show _ ≤ _ from nle0)
theorem r_l27 (a0 a1 a2 a3 a4 a5 a6 a7 a8 a9 a10 a11 a12 a13 a14 a15 a16 a17 a18 a19 a20 a21 a22 a23 a24 a25 a26 : D) : lenOk [a0, a1, a2, a3, a4, a5, a6, a7, a8, a9, a10, a11, a12, a13, a14, a15, a16, a17, a18, a19, a20, a21, a22, a23, a24, a25, a26] = True := eq_true (show _ ≤ _ from nle0)
theorem r_l28 (a0 a1 a2 a3 a4 a5 a6 a7 a8 a9 a10 a11 a12 a13 a14 a15 a16 a17 a18 a19 a20 a21 a22 a23 a24 a25 a26 a27 : D) : lenOk [a0, a1, a2, a3, a4, a5, a6, a7, a8, a9, a10, a11, a12, a13, a14, a15, a16, a17, a18, a19, a20, a21, a22, a23, a24, a25, a26, a27] = True := eq_true (show _ ≤ _ from nle0)
theorem r_l29 (a0 a1 a2 a3 a4 a5 a6 a7 a8 a9 a10 a11 a12 a13 a14 a15 a16 a17 a18 a19 a20 a21 a22 a23 a24 a25 a26 a27 a28 : D) : lenOk [a0, a1, a2, a3, a4, a5, a6, a7, a8, a9, a10, a11, a12, a13, a14, a15, a16, a17, a18, a19, a20, a21, a22, a23, a24, a25, a26, a27, a28] = True := eq_true (show _ ≤ _ from nle0)
theorem r_l30 (a0 a1 a2 a3 a4 a5 a6 a7 a8 a9 a10 a11 a12 a13 a14 a15 a16 a17 a18 a19 a20 a21 a22 a23 a24 a25 a26 a27 a28 a29 : D) : lenOk [a0, a1, a2, a3, a4, a5, a6, a7, a8, a9, a10, a11, a12, a13, a14, a15, a16, a17, a18, a19, a20, a21, a22, a23, a24, a25, a26, a27, a28, a29] = True := eq_true (show _ ≤ _ from nle0)
theorem r_l31 (a0 a1 a2 a3 a4 a5 a6 a7 a8 a9 a10 a11 a12 a13 a14 a15 a16 a17 a18 a19 a20 a21 a22 a23 a24 a25 a26 a27 a28 a29 a30 : D) : lenOk [a0, a1, a2, a3, a4, a5, a6, a7, a8, a9, a10, a11, a12, a13, a14, a15, a16, a17, a18, a19, a20, a21, a22, a23, a24, a25, a26, a27, a28, a29, a30] = True := eq_true (show _ ≤ _ from nle0)
theorem r_l32 (a0 a1 a2 a3 a4 a5 a6 a7 a8 a9 a10 a11 a12 a13 a14 a15 a16 a17 a18 a19 a20 a21 a22 a23 a24 a25 a26 a27 a28 a29 a30 a31 : D) : lenOk [a0, a1, a2, a3, a4, a5, a6, a7, a8, a9, a10, a11, a12, a13, a14, a15, a16, a17, a18, a19, a20, a21, a22, a23, a24, a25, a26, a27, a28, a29, a30, a31] = True := eq_true (show _ ≤ _ from nle0)
theorem r_add (i j : Int) (S : Store) (Q : DK) : bop .Add (.int i) (.int j) S Q = Q (.int (i + j)) S := rfl
theorem r_sub (i j : Int) (S : Store) (Q : DK) : bop .Sub (.int i) (.int j) S Q = Q (.int (i - j)) S := rfl
theorem r_mul (i j : Int) (S : Store) (Q : DK) : bop .Mult (.int i) (.int j) S Q = (Sm i ∧ Sm j ∧ Q (.int (i * j)) S) := rfl
theorem r_div (i j : Int) (S : Store) (Q : DK) : bop .FloorDiv (.int i) (.int j) S Q = (0 < j ∧ Sm j ∧ Q (.int (i / j)) S) := rfl
theorem r_mod (i j : Int) (S : Store) (Q : DK) : bop .Mod (.int i) (.int j) S Q = (0 < j ∧ Q (.int (i % j)) S) := rfl
theorem r_pow (i j : Int) (S : Store) (Q : DK) : bop .Pow (.int i) (.int j) S Q = (0 ≤ j ∧ j ≤ 1000 ∧ Sm i ∧ Q (.int (i ^ j.toNat)) S) := rfl
theorem r_addt (a b : List D) (S : Store) (Q : DK) : bop .Add (.tup a) (.tup b) S Q = (a.length + b.length ≤ 1000000 ∧ Q (.tup (a ++ b)) S) := rfl
theorem r_iadd (i j : Int) (S : Store) (Q : DK) : iop .Add (.int i) (.int j) S Q = Q (.int (i + j)) S := rfl
theorem r_isub (i j : Int) (S : Store) (Q : DK) : iop .Sub (.int i) (.int j) S Q = Q (.int (i - j)) S := rfl
theorem r_lt (i j : Int) (S : Store) (K : Bool → Prop) : cmpB .Lt (.int i) (.int j) S K = K (decide (i < j)) := rfl
theorem r_le (i j : Int) (S : Store) (K : Bool → Prop) : cmpB .LtE (.int i) (.int j) S K = K (decide (i ≤ j)) := rfl
theorem r_gt (i j : Int) (S : Store) (K : Bool → Prop) : cmpB .Gt (.int i) (.int j) S K = K (decide (j < i)) := rfl
theorem r_ge (i j : Int) (S : Store) (K : Bool → Prop) : cmpB .GtE (.int i) (.int j) S K = K (decide (j ≤ i)) := rfl
theorem r_eqi (i j : Int) (S : Store) (K : Bool → Prop) : cmpB .Eq (.int i) (.int j) S K = K (i == j) := rfl
theorem r_nei (i j : Int) (S : Store) (K : Bool → Prop) : cmpB .NotEq (.int i) (.int j) S K = K (!(i == j)) := rfl
theorem r_eqs (i j : Str) (S : Store) (K : Bool → Prop) : cmpB .Eq (.str i) (.str j) S K = K (i == j) := rfl
theorem r_nes (i j : Str) (S : Store) (K : Bool → Prop) : cmpB .NotEq (.str i) (.str j) S K = K (!(i == j)) := rfl
theorem r_eqb (i j : Bool) (S : Store) (K : Bool → Prop) : cmpB .Eq (.bl i) (.bl j) S K = K (i == j) := rfl
def isNon : D → Bool
  | .non => true
  | _ => false
theorem n_non : isNon .non = true := rfl
theorem n_int (i : Int) : isNon (.int i) = false := rfl
theorem n_ref (i : Nat) : isNon (.ref i) = false := rfl
theorem n_tup (l : List D) : isNon (.tup l) = false := rfl
theorem n_bl (b : Bool) : isNon (.bl b) = false := rfl
theorem n_str (b : Str) : isNon (.str b) = false := rfl
theorem r_is (x : D) (S : Store) (K : Bool → Prop) : cmpB .Is x .non S K = K (isNon x) := by cases x <;> rfl
theorem r_isn (x : D) (S : Store) (K : Bool → Prop) : cmpB .IsNot x .non S K = K (!isNon x) := by cases x <;> rfl
theorem r_isi (t : Ty) (x : D) (S : Store) (Q : DK) : bt (.isi t) [x] S Q = (match isTy S x t with | some k => Q (.bl k) S | none => False) := rfl
theorem r_max2 (i j : Int) (S : Store) (Q : DK) : bt .max2 [.int i, .int j] S Q = Q (.int (imax i j)) S := rfl
theorem r_min2 (i j : Int) (S : Store) (Q : DK) : bt .min2 [.int i, .int j] S Q = Q (.int (imin i j)) S := rfl
theorem r_abs (i : Int) (S : Store) (Q : DK) : bt .abs1 [.int i] S Q = Q (.int (if i < 0 then -i else i)) S := rfl
theorem r_int (i : Int) (S : Store) (Q : DK) : bt .int1 [.int i] S Q = Q (.int i) S := rfl
theorem r_intb (b : Bool) (S : Store) (Q : DK) : bt .int1 [.bl b] S Q = Q (.int (if b then 1 else 0)) S := rfl
theorem r_lent (l : List D) (S : Store) (Q : DK) : bt .len [.tup l] S Q = (l.length ≤ 1000000 ∧ Q (.int l.length) S) := rfl
theorem r_listt (l : List D) (S : Store) (Q : DK) : bt .list1 [.tup l] S Q = Q (.ref S.length) (S ++ [.lst l]) := rfl
theorem r_slt (l : List D) (a b : Option Int) (S : Store) (Q : DK) : slD (.tup l) a b S Q = Q (.tup (cut l a b)) S := rfl
theorem r_itt (l : List D) (S : Store) (R : List D → (Store → Prop) → Prop) : itSeq (.tup l) S R = R l (fun _ => True) := rfl
theorem r_ix0 (a : D) (l : List D) (S : Store) (Q : DK) : ixD (.tup (a :: l)) (.int 0) S Q = Q a S := by
  show (match L2.atI (a :: l) 0 with | some v => Q v S | none => False) = _
  rw [show L2.atI (a :: l) 0 = some a from L2.atI_nat (j := 0) rfl]
theorem r_ix1 (a b : D) (l : List D) (S : Store) (Q : DK) : ixD (.tup (a :: b :: l)) (.int 1) S Q = Q b S := by
  show (match L2.atI (a :: b :: l) 1 with | some v => Q v S | none => False) = _
  rw [show L2.atI (a :: b :: l) 1 = some b from L2.atI_nat (j := 1) rfl]
theorem r_ix2 (a b c : D) (l : List D) (S : Store) (Q : DK) : ixD (.tup (a :: b :: c :: l)) (.int 2) S Q = Q c S := by
  show (match L2.atI (a :: b :: c :: l) 2 with | some v => Q v S | none => False) = _
  rw [show L2.atI (a :: b :: c :: l) 2 = some c from L2.atI_nat (j := 2) rfl]
theorem r_ix3 (a b c d : D) (l : List D) (S : Store) (Q : DK) : ixD (.tup (a :: b :: c :: d :: l)) (.int 3) S Q = Q d S := by
  show (match L2.atI (a :: b :: c :: d :: l) 3 with | some v => Q v S | none => False) = _
  rw [show L2.atI (a :: b :: c :: d :: l) 3 = some d from L2.atI_nat (j := 3) rfl]
theorem r_ix4 (a b c d e : D) (l : List D) (S : Store) (Q : DK) : ixD (.tup (a :: b :: c :: d :: e :: l)) (.int 4) S Q = Q e S := by
  show (match L2.atI (a :: b :: c :: d :: e :: l) 4 with | some v => Q v S | none => False) = _
  rw [show L2.atI (a :: b :: c :: d :: e :: l) 4 = some e from L2.atI_nat (j := 4) rfl]
theorem lq_of {S : Store} {n : Nat} {l : List D} (h : S[n]? = some (.lst l)) : lq? S (.ref n) = some l := lst_of h
theorem sq_of {S : Store} {n : Nat} {l : List D} (h : S[n]? = some (.lst l)) : seq? S (.ref n) = some l := lst_of h
theorem sq_dct {S : Store} {n : Nat} {kvs : List (Key × D)} (h : S[n]? = some (.dct kvs)) : seq? S (.ref n) = none := by
  show lst? S n = none
  unfold lst?
  rw [h]
theorem keyOf_keyD (k : Key) : keyOf (keyD k) = some k := by cases k <;> rfl
theorem len_go {S : Store} {n : Nat} {l : List D} {Q : DK} (h : S[n]? = some (.lst l)) (hl : l.length ≤ 1000000) (q : Q (.int l.length) S) : bt .len [.ref n] S Q := by
  show (match len? S (.ref n) with | some n => n ≤ 1000000 ∧ Q (.int n) S | none => False)
  unfold len?
  dsimp only
  rw [h]
  exact ⟨hl, q⟩
theorem addl_go {S : Store} {a b : Nat} {l m : List D} {Q : DK} (h1 : S[a]? = some (.lst l)) (h2 : S[b]? = some (.lst m)) (hl : l.length + m.length ≤ 1000000) (q : Q (.ref S.length) (S ++ [.lst (l ++ m)])) : bop .Add (.ref a) (.ref b) S Q := by
  show (match lq? S (.ref a), lq? S (.ref b) with | some l, some m => l.length + m.length ≤ 1000000 ∧ Q (.ref S.length) (S ++ [.lst (l ++ m)]) | _, _ => False)
  rw [lq_of h1, lq_of h2]
  exact ⟨hl, q⟩
theorem listd_go {S : Store} {n : Nat} {l : List (Key × D)} {Q : DK} (h : S[n]? = some (.dct l)) (q : Q (.ref S.length) (S ++ [.lst (l.map fun kv => keyD kv.1)])) : bt .list1 [.ref n] S Q := by
  show bList [.ref n] S Q
  unfold bList
  dsimp only
  rw [sq_dct h, dct_of h]
  exact q
theorem tuple_go {S : Store} {n : Nat} {l : List D} {Q : DK} (h : S[n]? = some (.lst l)) (q : Q (.tup l) S) : bt .tuple1 [.ref n] S Q := by
  show bTuple [.ref n] S Q
  unfold bTuple
  dsimp only
  rw [sq_of h]
  exact q
theorem dctr_of {S : Store} {n : Nat} {l : List (Key × D)} (h : S[n]? = some (.dct l)) : dctr? S (.ref n) = some l := by
  unfold dctr?
  dsimp only
  rw [h]
theorem dctr_off {S : Store} {n : Nat} {l : List (Key × D)} (h : S[n]? = some (.fdct l)) : dctr? S (.ref n) = some l := by
  unfold dctr?
  dsimp only
  rw [h]
def Dt (S : Store) (n : Nat) (l : List (Key × D)) : Prop := S[n]? = some (.dct l) ∨ S[n]? = some (.fdct l)
theorem Dt.r {S : Store} {n : Nat} {l : List (Key × D)} (h : Dt S n l) : dctr? S (.ref n) = some l := by
  rcases h with h | h
  · exact dctr_of h
  · exact dctr_off h
theorem ixl_go {S : Store} {n : Nat} {l : List D} {i : Int} {d : D} {Q : DK} (h : S[n]? = some (.lst l)) (e : L2.atI l i = some d) (q : Q d S) : ixD (.ref n) (.int i) S Q := ix_go (sq_of h) e q
theorem ixt_go {S : Store} {l : List D} {i : Int} {j : Nat} {d : D} {Q : DK} (hi : i = j) (e : l[j]? = some d) (q : Q d S) : ixD (.tup l) (.int i) S Q := by
  subst hi
  exact ix_go rfl (L2.atI_nat e) q
theorem sq_dctf {S : Store} {n : Nat} {kvs : List (Key × D)} (h : S[n]? = some (.fdct kvs)) : seq? S (.ref n) = none := by
  show lst? S n = none
  unfold lst?
  rw [h]
theorem ixf_go {S : Store} {n : Nat} {kvs : List (Key × D)} {k : Key} {d : D} {Q : DK} (h : S[n]? = some (.fdct kvs)) (e : dGet kvs k = some d) (q : Q d S) : ixD (.ref n) (keyD k) S Q := by
  unfold ixD
  rw [sq_dctf h, dctr_off h, keyOf_keyD]
  dsimp only
  rw [e]
  exact q
theorem Dt.sq {S : Store} {n : Nat} {l : List (Key × D)} (h : Dt S n l) : seq? S (.ref n) = none := by
  rcases h with h | h
  · exact sq_dct h
  · exact sq_dctf h
theorem any_go {S : Store} {n : Nat} {l : List D} {b : List Bool} {Q : DK} (h : S[n]? = some (.lst l)) (e : bls? l = some b) (q : Q (.bl (b.any id)) S) : bt .any1 [.ref n] S Q := by
  show (match (lst? S n).bind bls? with | some l => Q (.bl (l.any id)) S | none => False)
  rw [lst_of h]
  show (match bls? l with | some l => Q (.bl (l.any id)) S | none => False)
  rw [e]
  exact q
theorem sorted_go {S : Store} {n : Nat} {l : List D} {Q : DK} (h : S[n]? = some (.lst l)) (o : OrdOk l) (q : Q (.ref S.length) (S ++ [.lst (sortD l)])) : bt .sorted1 [.ref n] S Q := by
  show bSorted [.ref n] S Q
  unfold bSorted
  dsimp only
  rw [lq_of h]
  exact ⟨o, q⟩
theorem min_go {S : Store} {n : Nat} {d : D} {l : List D} {Q : DK} (h : S[n]? = some (.lst (d :: l))) (o : OrdOk (d :: l)) (q : Q (minL d l) S) : bt .min1 [.ref n] S Q := by
  show bBest minL [.ref n] S Q
  unfold bBest
  dsimp only
  rw [lq_of h]
  exact ⟨o, q⟩
def maxR : List Int → Int
  | [] => -1
  | a :: l => maxI a l
theorem maxd_go {S : Store} {n : Nat} {R : List Int} {Q : DK} (h : S[n]? = some (.lst (R.map D.int))) (q : Q (.int (maxR R)) S) : bt .maxd [.ref n, .int (-1)] S Q := by
  show bMaxd [.ref n, .int (-1)] S Q
  unfold bMaxd
  dsimp only
  rw [lq_of h]
  cases R with
  | nil => exact q
  | cons a R =>
    refine ⟨ord_ints (a :: R), ?_⟩
    rw [maxL_int]
    exact q
theorem maxR_le {R : List Int} {i : Nat} (h : (i : Int) ≤ maxR R) : ∃ r ∈ R, (i : Int) ≤ r := by
  cases R with
  | nil =>
    have : (i : Int) ≤ -1 := h
    omega
  | cons a R =>
    obtain ⟨h1, h2, h3⟩ := maxI_spec R a
    rcases h1 with e | e
    · exact ⟨a, by simp, by have : (i : Int) ≤ maxI a R := h; omega⟩
    · exact ⟨maxI a R, by simp [e], h⟩
theorem maxR_lt {R : List Int} {i : Int} (h : ¬ i ≤ maxR R) : ∀ r ∈ R, r < i := by
  cases R with
  | nil => exact fun r hr => nomatch hr
  | cons a R =>
    obtain ⟨h1, h2, h3⟩ := maxI_spec R a
    have h : ¬ i ≤ maxI a R := h
    intro r hr
    rcases List.mem_cons.mp hr with rfl | hr
    · omega
    · have := h3 r hr
      omega
theorem sll_go {S : Store} {n : Nat} {l : List D} {a b : Option Int} {Q : DK} (h : S[n]? = some (.lst l)) (q : Q (.ref S.length) (S ++ [.lst (cut l a b)])) : slD (.ref n) a b S Q := by
  show (match lq? S (.ref n) with | some l => Q (.ref S.length) (S ++ [.lst (cut l a b)]) | none => False)
  rw [lq_of h]
  exact q
theorem cut_from (l : List D) (k : Nat) : cut l (some (k : Int)) none = l.drop k := by
  unfold cut
  rw [HT.sIx_nat, HT.sIx_none]
  by_cases h : k ≤ l.length
  · rw [Nat.min_eq_left h, List.take_of_length_le (by rw [List.length_drop]; exact Nat.le_refl _)]
  · rw [Nat.min_eq_right (by omega), List.drop_eq_nil_of_le (Nat.le_refl _), List.drop_eq_nil_of_le (by omega)]
    simp
theorem cut_to (l : List D) (k : Nat) : cut l none (some (k : Int)) = l.take k := by
  unfold cut
  rw [HT.sIx_nat, HT.sIx_none]
  simp
end Mn
local macro_rules | `(tactic| ac_rfl) => `(tactic| ((try (dsimp only [Mn.e_no, Mn.e_v, Mn.e_cst, Mn.e_and, Mn.e_or, Mn.e_not, Mn.e_ite, Mn.e_bin, Mn.e_neg, Mn.e_cmp, Mn.e_chn, Mn.e_ix, Mn.e_sl, Mn.e_rev, Mn.e_skl, Mn.e_dct, Mn.e_bm, Mn.e_attr, Mn.e_meth, Mn.e_make, Mn.e_lc, Mn.e_lc2, Mn.e_dc, Mn.e_told, Mn.e_ind, Mn.e_orv, Mn.e_inR, Mn.e_methk, Mn.e_nild, Mn.e_lenO, Mn.e_gix, Mn.e_dctP, Mn.e_dictF, Mn.e_ixF, Mn.e_minF, Mn.e_ixP, Mn.e_inP, Mn.e_tup, Mn.e_lst, Mn.e_call, Mn.e_calld, Mn.e_callk, Mn.e_blt, Mn.e_dsp, Mn.ka_nil, Mn.ka_c, Mn.es_n, Mn.es_c, Mn.i_seq, Mn.i_enum, Mn.i_rng, Mn.i_rngd, Mn.i_rng2, Mn.i_keys, Mn.i_vals, Mn.i_chars, Mn.c_set, Mn.c_asg, Mn.c_asgm, Mn.tm_n, Mn.tm_t, Mn.tm_s, Mn.tm_a, Mn.c_par, Mn.c_star, Mn.c_unp, Mn.c_setA, Mn.c_aug, Mn.c_augA, Mn.c_augX, Mn.c_pass, Mn.c_raise, Mn.c_setIx, Mn.c_setP, Mn.c_ret, Mn.c_ex, Mn.c_cond, Mn.c_whl, Mn.c_for, Mn.cs_n, Mn.optP, Mn.rtEnds, Mn.Tg.bind, Mn.Tgs.bind, List.getElem?_cons_zero, List.getElem?_cons_succ, List.set_cons_zero, List.set_cons_succ, List.length_cons, List.length_nil, Mn.wipeE, Mn.r_add, Mn.r_sub, Mn.r_mul, Mn.r_div, Mn.r_mod, Mn.r_pow, Mn.r_addt, Mn.r_iadd, Mn.r_isub, Mn.r_lt, Mn.r_le, Mn.r_gt, Mn.r_ge, Mn.r_eqi, Mn.r_nei, Mn.r_eqs, Mn.r_nes, Mn.r_eqb, Mn.n_non, Mn.n_int, Mn.n_ref, Mn.n_tup, Mn.n_bl, Mn.n_str, Mn.r_isi, Mn.isTy, Mn.isL, Option.map_some, Mn.r_max2, Mn.r_min2, Mn.r_int, Mn.r_intb, Mn.r_abs, Mn.r_lent, Mn.r_listt, Mn.r_slt, Mn.r_itt, Bool.not_true, Bool.not_false, List.nil_append, List.cons_append])); (try (simp only [Mn.r_is, Mn.r_isn, Mn.r_ix0, Mn.r_ix1, Mn.r_ix2, Mn.r_ix3, Mn.r_ix4, Mn.r_l0, Mn.r_l1, Mn.r_l2, Mn.r_l3, Mn.r_l4, Mn.r_l5, Mn.r_l6, Mn.r_l7, Mn.r_l8, Mn.r_l9, Mn.r_l10, Mn.r_l11, Mn.r_l12, Mn.r_l13, Mn.r_l14, Mn.r_l15, Mn.r_l16, Mn.r_l17, Mn.r_l18, Mn.r_l19, Mn.r_l20, Mn.r_l21, Mn.r_l22, Mn.r_l23, Mn.r_l24, Mn.r_l25, Mn.r_l26, Mn.r_l27, Mn.r_l28, Mn.r_l29, Mn.r_l30, Mn.r_l31, Mn.r_l32, true_and])); (try (dsimp only [Mn.e_no, Mn.e_v, Mn.e_cst, Mn.e_and, Mn.e_or, Mn.e_not, Mn.e_ite, Mn.e_bin, Mn.e_neg, Mn.e_cmp, Mn.e_chn, Mn.e_ix, Mn.e_sl, Mn.e_rev, Mn.e_skl, Mn.e_dct, Mn.e_bm, Mn.e_attr, Mn.e_meth, Mn.e_make, Mn.e_lc, Mn.e_lc2, Mn.e_dc, Mn.e_told, Mn.e_ind, Mn.e_orv, Mn.e_inR, Mn.e_methk, Mn.e_nild, Mn.e_lenO, Mn.e_gix, Mn.e_dctP, Mn.e_dictF, Mn.e_ixF, Mn.e_minF, Mn.e_ixP, Mn.e_inP, Mn.e_tup, Mn.e_lst, Mn.e_call, Mn.e_calld, Mn.e_callk, Mn.e_blt, Mn.e_dsp, Mn.ka_nil, Mn.ka_c, Mn.es_n, Mn.es_c, Mn.i_seq, Mn.i_enum, Mn.i_rng, Mn.i_rngd, Mn.i_rng2, Mn.i_keys, Mn.i_vals, Mn.i_chars, Mn.c_set, Mn.c_asg, Mn.c_asgm, Mn.tm_n, Mn.tm_t, Mn.tm_s, Mn.tm_a, Mn.c_par, Mn.c_star, Mn.c_unp, Mn.c_setA, Mn.c_aug, Mn.c_augA, Mn.c_augX, Mn.c_pass, Mn.c_raise, Mn.c_setIx, Mn.c_setP, Mn.c_ret, Mn.c_ex, Mn.c_cond, Mn.c_whl, Mn.c_for, Mn.cs_n, Mn.optP, Mn.rtEnds, Mn.Tg.bind, Mn.Tgs.bind, List.getElem?_cons_zero, List.getElem?_cons_succ, List.set_cons_zero, List.set_cons_succ, List.length_cons, List.length_nil, Mn.wipeE, Mn.r_add, Mn.r_sub, Mn.r_mul, Mn.r_div, Mn.r_mod, Mn.r_pow, Mn.r_addt, Mn.r_iadd, Mn.r_isub, Mn.r_lt, Mn.r_le, Mn.r_gt, Mn.r_ge, Mn.r_eqi, Mn.r_nei, Mn.r_eqs, Mn.r_nes, Mn.r_eqb, Mn.n_non, Mn.n_int, Mn.n_ref, Mn.n_tup, Mn.n_bl, Mn.n_str, Mn.r_isi, Mn.isTy, Mn.isL, Option.map_some, Mn.r_max2, Mn.r_min2, Mn.r_int, Mn.r_intb, Mn.r_abs, Mn.r_lent, Mn.r_listt, Mn.r_slt, Mn.r_itt, Bool.not_true, Bool.not_false, List.nil_append, List.cons_append])); (try (simp only [Mn.r_is, Mn.r_isn, Mn.r_ix0, Mn.r_ix1, Mn.r_ix2, Mn.r_ix3, Mn.r_ix4, Mn.r_l0, Mn.r_l1, Mn.r_l2, Mn.r_l3, Mn.r_l4, Mn.r_l5, Mn.r_l6, Mn.r_l7, Mn.r_l8, Mn.r_l9, Mn.r_l10, Mn.r_l11, Mn.r_l12, Mn.r_l13, Mn.r_l14, Mn.r_l15, Mn.r_l16, Mn.r_l17, Mn.r_l18, Mn.r_l19, Mn.r_l20, Mn.r_l21, Mn.r_l22, Mn.r_l23, Mn.r_l24, Mn.r_l25, Mn.r_l26, Mn.r_l27, Mn.r_l28, Mn.r_l29, Mn.r_l30, Mn.r_l31, Mn.r_l32, true_and])); (try (dsimp only [Mn.e_no, Mn.e_v, Mn.e_cst, Mn.e_and, Mn.e_or, Mn.e_not, Mn.e_ite, Mn.e_bin, Mn.e_neg, Mn.e_cmp, Mn.e_chn, Mn.e_ix, Mn.e_sl, Mn.e_rev, Mn.e_skl, Mn.e_dct, Mn.e_bm, Mn.e_attr, Mn.e_meth, Mn.e_make, Mn.e_lc, Mn.e_lc2, Mn.e_dc, Mn.e_told, Mn.e_ind, Mn.e_orv, Mn.e_inR, Mn.e_methk, Mn.e_nild, Mn.e_lenO, Mn.e_gix, Mn.e_dctP, Mn.e_dictF, Mn.e_ixF, Mn.e_minF, Mn.e_ixP, Mn.e_inP, Mn.e_tup, Mn.e_lst, Mn.e_call, Mn.e_calld, Mn.e_callk, Mn.e_blt, Mn.e_dsp, Mn.ka_nil, Mn.ka_c, Mn.es_n, Mn.es_c, Mn.i_seq, Mn.i_enum, Mn.i_rng, Mn.i_rngd, Mn.i_rng2, Mn.i_keys, Mn.i_vals, Mn.i_chars, Mn.c_set, Mn.c_asg, Mn.c_asgm, Mn.tm_n, Mn.tm_t, Mn.tm_s, Mn.tm_a, Mn.c_par, Mn.c_star, Mn.c_unp, Mn.c_setA, Mn.c_aug, Mn.c_augA, Mn.c_augX, Mn.c_pass, Mn.c_raise, Mn.c_setIx, Mn.c_setP, Mn.c_ret, Mn.c_ex, Mn.c_cond, Mn.c_whl, Mn.c_for, Mn.cs_n, Mn.optP, Mn.rtEnds, Mn.Tg.bind, Mn.Tgs.bind, List.getElem?_cons_zero, List.getElem?_cons_succ, List.set_cons_zero, List.set_cons_succ, List.length_cons, List.length_nil, Mn.wipeE, Mn.r_add, Mn.r_sub, Mn.r_mul, Mn.r_div, Mn.r_mod, Mn.r_pow, Mn.r_addt, Mn.r_iadd, Mn.r_isub, Mn.r_lt, Mn.r_le, Mn.r_gt, Mn.r_ge, Mn.r_eqi, Mn.r_nei, Mn.r_eqs, Mn.r_nes, Mn.r_eqb, Mn.n_non, Mn.n_int, Mn.n_ref, Mn.n_tup, Mn.n_bl, Mn.n_str, Mn.r_isi, Mn.isTy, Mn.isL, Option.map_some, Mn.r_max2, Mn.r_min2, Mn.r_int, Mn.r_intb, Mn.r_abs, Mn.r_lent, Mn.r_listt, Mn.r_slt, Mn.r_itt, Bool.not_true, Bool.not_false, List.nil_append, List.cons_append]))))
local macro_rules | `(tactic| bv_omega) => `(tactic| (refine Mn.cs_cons ?_; ac_rfl))
namespace Mn
open PySem
def SemUp (F G : Sem) : Prop := ∀ f ds S (Q Q' : DK) (X X' : XK), (∀ d S, Q d S → Q' d S) → (∀ c S, X c S → X' c S) → F f ds S Q X → G f ds S Q' X'
def TUp (c c' : Env → Store → DK → Prop) : Prop := ∀ ρ S (Q Q' : DK), (∀ d S, Q d S → Q' d S) → c ρ S Q → c' ρ S Q'
def BUp (b b' : Ends → Env → Store → Prop) : Prop := ∀ K K' ρ S, Ends.le K K' → b K ρ S → b' K' ρ S
theorem wpLc_up {t : Tg} {G : Store → Prop} {c e c' e' : Env → Store → DK → Prop} {Q Q' : Store → Prop} {n : Nat} {ρ : Env} (hc : TUp c c') (he : TUp e e') (h : ∀ S, Q S → Q' S) : ∀ (l acc : List D) {S : Store}, wpLc t G c e Q n ρ l acc S → wpLc t G c' e' Q' n ρ l acc S
  | [], _, _, q => ⟨q.1, h _ q.2⟩
  | d :: r, acc, S, q => by
    refine ⟨q.1, ?_⟩
    have q2 := q.2
    split at q2
    · refine hc _ _ _ _ (fun x S1 q3 => ?_) q2
      split at q3
      · exact he _ _ _ _ (fun y S2 q4 => ⟨q4.1, q4.2.1, wpLc_up hc he h r _ q4.2.2⟩) q3
      · exact wpLc_up hc he h r _ q3
      · exact q3
    · exact q2
theorem wpDc_up {t : Tg} {G : Store → Prop} {c e c' e' : Env → Store → DK → Prop} {Q Q' : Store → Prop} {n : Nat} {ρ : Env} (hc : TUp c c') (he : TUp e e') (h : ∀ S, Q S → Q' S) : ∀ (l : List D) (acc : List (Key × D)) {S : Store}, wpDc t G c e Q n ρ l acc S → wpDc t G c' e' Q' n ρ l acc S
  | [], _, _, q => ⟨q.1, h _ q.2⟩
  | d :: r, acc, S, q => by
    refine ⟨q.1, ?_⟩
    have q2 := q.2
    split at q2
    · refine hc _ _ _ _ (fun x S1 q3 => ?_) q2
      split at q3
      · exact he _ _ _ _ (fun y S2 q4 => ⟨q4.1, q4.2.1, wpDc_up hc he h r _ q4.2.2⟩) q3
      · exact q3
    · exact q2
theorem wpLc1_up {t : Tg} {G : Store → Prop} {e e' : Env → Store → DK → Prop} {K K' : List D → Store → Prop} {n : Nat} {ρ : Env} (he : TUp e e') (h : ∀ a S, K a S → K' a S) : ∀ (l acc : List D) {S : Store}, wpLc1 t G e n ρ K l acc S → wpLc1 t G e' n ρ K' l acc S
  | [], _, _, q => ⟨q.1, h _ _ q.2⟩
  | d :: r, acc, S, q => by
    refine ⟨q.1, ?_⟩
    have q2 := q.2
    split at q2
    · exact he _ _ _ _ (fun y S2 q4 => ⟨q4.1, q4.2.1, wpLc1_up he h r _ q4.2.2⟩) q2
    · exact q2
def IUp (c c' : Env → Store → (List D → (Store → Prop) → Store → Prop) → Prop) : Prop := ∀ ρ S (R R' : List D → (Store → Prop) → Store → Prop), (∀ l G S, R l G S → R' l G S) → c ρ S R → c' ρ S R'
theorem wpLc2_up {t : Tg} {G : Store → Prop} {I1 I1' : Env → Store → (List D → (Store → Prop) → Store → Prop) → Prop} {t1 : Tg} {own1 : List Nat} {e e' : Env → Store → DK → Prop} {Q Q' : Store → Prop} {n : Nat} {ρ : Env} (hi : IUp I1 I1') (he : TUp e e') (h : ∀ S, Q S → Q' S) : ∀ (l acc : List D) {S : Store}, wpLc2 t G I1 t1 own1 e Q n ρ l acc S → wpLc2 t G I1' t1 own1 e' Q' n ρ l acc S
  | [], _, _, q => ⟨q.1, h _ q.2⟩
  | d :: r, acc, S, q => by
    refine ⟨q.1, ?_⟩
    have q2 := q.2
    split at q2
    · exact hi _ _ _ _ (fun l1 G1 S1 q3 => wpLc1_up he (fun a S' q4 => wpLc2_up hi he h r a q4) l1 acc q3) q2
    · exact q2
section
variable {F G : Sem} (hF : SemUp F G)
include hF
mutual
theorem wpE_up : ∀ (e : E) {ρ : Env} {S : Store} {Q Q' : DK} {X X' : XK}, (∀ d S, Q d S → Q' d S) → (∀ c S, X c S → X' c S) → wpE F e ρ S Q X → wpE G e ρ S Q' X'
  | .bad, _, _, _, _, _, _, _, _, q => q
  | .no, _, _, _, _, _, _, h, _, q => h _ _ q
  | .v i, ρ, _, _, _, _, _, h, _, q => by
    unfold wpE at *
    split at q
    · exact h _ _ q
    · exact q
  | .cst d, _, _, _, _, _, _, h, _, q => h _ _ q
  | .and a b, _, _, _, _, _, _, h, hx, q => wpE_up a (fun x S1 q1 => by
      split at q1
      · exact wpE_up b h hx q1
      · exact h _ _ q1
      · exact q1) hx q
  | .or a b, _, _, _, _, _, _, h, hx, q => wpE_up a (fun x S1 q1 => by
      split at q1
      · exact h _ _ q1
      · exact wpE_up b h hx q1
      · exact q1) hx q
  | .not a, _, _, _, _, _, _, h, hx, q => wpE_up a (fun x S1 q1 => by
      split at q1
      · exact h _ _ q1
      · exact q1) hx q
  | .ite c a b, _, _, _, _, _, _, h, hx, q => wpE_up c (fun x S1 q1 => by
      split at q1
      · exact wpE_up a h hx q1
      · exact wpE_up b h hx q1
      · exact q1) hx q
  | .bin op a b, _, _, _, _, _, _, h, hx, q => wpE_up a (fun x S1 q1 => wpE_up b (fun y S2 q2 => bop_mono h q2) hx q1) hx q
  | .neg a, _, _, _, _, _, _, h, hx, q => wpE_up a (fun x S1 q1 => by
      split at q1
      · exact h _ _ q1
      · exact q1) hx q
  | .cmp op a b, _, _, _, _, _, _, h, hx, q => wpE_up a (fun x S1 q1 => wpE_up b (fun y S2 q2 => cmpB_mono (fun k => h _ _) q2) hx q1) hx q
  | .chn op op2 a b c, _, _, _, _, _, _, h, hx, q => wpE_up a (fun x S1 q1 => wpE_up b (fun y S2 q2 => cmpB_mono (fun k q3 => by
      cases k with
      | true => exact wpE_up c (fun z S3 q4 => cmpB_mono (fun k => h _ _) q4) hx q3
      | false => exact h _ _ q3) q2) hx q1) hx q
  | .ix a i, _, _, _, _, _, _, h, hx, q => wpE_up a (fun x S1 q1 => wpE_up i (fun y S2 q2 => ixD_mono h q2) hx q1) hx q
  | .sl a lo hi, _, _, _, _, _, _, h, hx, q => wpE_up a (fun x S1 q1 => wpE_up lo (fun y S2 q2 => by
      split at q2
      · refine wpE_up hi (fun z S3 q3 => ?_) hx q2
        split at q3
        · exact slD_mono h q3
        · exact q3
      · exact q2) hx q1) hx q
  | .skl i a, _, _, _, _, _, _, h, hx, q => wpE_up a (fun x S1 q1 => by
      unfold sklD at *
      split at q1
      · exact ⟨q1.1, h _ _ q1.2⟩
      · exact q1) hx q
  | .rev a, _, _, _, _, _, _, h, hx, q => wpE_up a (fun x S1 q1 => by
      (repeat' split at q1) <;> first | exact h _ _ q1 | exact q1) hx q
  | .dct ks vs, _, _, _, _, _, _, h, hx, q => wpEs_up ks (fun xs S1 q1 => wpEs_up vs (fun ys S2 q2 => by
      split at q2
      · exact h _ _ q2
      · exact q2) hx q1) hx q
  | .dsp ks vs, _, _, _, _, _, _, h, hx, q => by
    unfold wpE at *
    split at q
    · exact wpEs_up vs (fun ds S2 q2 => ⟨q2.1, q2.2.1, h _ _ q2.2.2⟩) hx q
    · exact q
  | .bm m o es, _, _, _, _, _, _, h, hx, q => wpE_up o (fun x S1 q1 => ⟨q1.1, wpEs_up es (fun ds S2 q2 => bm_mono h q2) hx q1.2⟩) hx q
  | .attr c o f, _, _, _, _, _, _, h, hx, q => wpE_up o (fun x S1 q1 => by
      (repeat' split at q1) <;> first | exact ⟨q1.1, h _ _ q1.2⟩ | exact q1) hx q
  | .meth c m f o es, _, _, _, _, _, _, h, hx, q => wpE_up o (fun x S1 q1 => by
      split at q1
      · exact ⟨q1.1, q1.2.1, wpEs_up es (fun ds S2 q2 => hF _ _ _ _ _ _ _ h hx q2) hx q1.2.2⟩
      · exact q1) hx q
  | .make c f es, _, _, _, _, _, _, h, hx, q => wpEs_up es (fun ds S1 q1 => hF _ _ _ _ _ _ _ (fun d S2 q2 => ⟨q2.1, h _ _ q2.2⟩) hx q1) hx q
  | .lc own t it c e, _, _, _, _, _, _, h, hx, q => by
    have hc : TUp (fun ρ S Q => wpE F c ρ S Q noX) (fun ρ S Q => wpE G c ρ S Q noX) := fun ρ S Q Q' k z => wpE_up c k (fun _ _ z => z) z
    have he : TUp (fun ρ S Q => wpE F e ρ S Q noX) (fun ρ S Q => wpE G e ρ S Q noX) := fun ρ S Q Q' k z => wpE_up e k (fun _ _ z => z) z
    exact wpIt_up it (fun l G S1 q1 => wpLc_up hc he (fun S => h _ S) l [] q1) hx q
  | .lc2 own t it own1 t1 it1 e, _, _, _, _, _, _, h, hx, q => by
    have hi : IUp (fun ρ S R => wpIt F it1 ρ S R noX) (fun ρ S R => wpIt G it1 ρ S R noX) := fun ρ S R R' k z => wpIt_up it1 k (fun _ _ z => z) z
    have he : TUp (fun ρ S Q => wpE F e ρ S Q noX) (fun ρ S Q => wpE G e ρ S Q noX) := fun ρ S Q Q' k z => wpE_up e k (fun _ _ z => z) z
    exact wpIt_up it (fun l G S1 q1 => wpLc2_up hi he (fun S => h _ S) l [] q1) hx q
  | .orv a b, _, _, _, _, _, _, h, hx, q => wpE_up a (fun x S1 q1 => by
      split at q1
      · exact wpE_up b h hx q1
      · rename_i i
        by_cases e : i = 0
        · rw [if_pos e] at q1 ⊢
          exact wpE_up b h hx q1
        · rw [if_neg e] at q1 ⊢
          exact h _ _ q1
      · exact q1) hx q
  | .ind neg a b, _, _, _, _, _, _, h, hx, q => wpE_up a (fun x S1 q1 => wpE_up b (fun y S2 q2 => inD_mono (fun k => h _ _) q2) hx q1) hx q
  | .lk e, _, _, _, _, _, _, h, _, q => by
    obtain ⟨n, kvs, g, q⟩ := q
    exact ⟨n, kvs, g, wpE_up e (fun x S1 q1 => ⟨q1.1, h _ _ q1.2⟩) (fun _ _ z => z) q⟩
  | .nild a b, _, _, _, _, _, _, h, hx, q => wpE_up a (fun x S1 q1 => wpE_up b (fun y S2 q2 => nilD_mono (fun k => h _ _) q2) hx q1) hx q
  | .lenO e, _, _, _, _, _, _, h, hx, q => wpE_up e (fun x S1 q1 => lenOD_mono (fun n => h _ _) q1) hx q
  | .inR neg x a b, _, _, _, _, _, _, h, hx, q => wpE_up x (fun x S1 q1 => wpE_up a (fun y S2 q2 => wpE_up b (fun z S3 q3 => inRD_mono h q3) hx q2) hx q1) hx q
  | .methk c m f o es d ks, _, _, _, _, _, _, h, hx, q => wpE_up o (fun x S1 q1 => by
      split at q1
      · exact ⟨q1.1, q1.2.1, wpEs_up es (fun ds S2 q2 => wpEs_up ks (fun zs S3 q3 => hF _ _ _ _ _ _ _ h hx q3) hx q2) hx q1.2.2⟩
      · exact q1) hx q
  | .gix _ kvs i, _, _, _, _, _, _, h, hx, q => wpE_up i (fun y S1 q1 => gixD_mono h q1) hx q
  | .dctP, _, _, _, _, _, _, h, _, q => h _ _ q
  | .dictF e, _, _, _, _, _, _, h, hx, q => wpE_up e (fun x S1 q1 => dictFD_mono h q1) hx q
  | .ixF o k, _, _, _, _, _, _, h, hx, q => wpE_up o (fun x S1 q1 => wpE_up k (fun y S2 q2 => ixFD_mono h q2) hx q1) hx q
  | .minF o, _, _, _, _, _, _, h, hx, q => wpE_up o (fun x S1 q1 => minFD_mono h q1) hx q
  | .ixP o a b, _, _, _, _, _, _, h, hx, q => wpE_up o (fun x S1 q1 => wpE_up a (fun y S2 q2 => wpE_up b (fun z S3 q3 => pIx_mono h q3) hx q2) hx q1) hx q
  | .inP neg a b o, _, _, _, _, _, _, h, hx, q => wpE_up a (fun x S1 q1 => wpE_up b (fun y S2 q2 => wpE_up o (fun z S3 q3 => pIn_mono (fun k => h _ _) q3) hx q2) hx q1) hx q
  | .told ws e, _, _, Q, Q', _, _, h, _, q => by
    unfold wpE at *
    refine wpE_up e (fun _ _ q => h _ _ q) (fun c S1 q => ?_) q
    split at q
    · exact h _ _ q
    · exact q
  | .dc own t it c e, _, _, _, _, _, _, h, hx, q => by
    have hc : TUp (fun ρ S Q => wpE F c ρ S Q noX) (fun ρ S Q => wpE G c ρ S Q noX) := fun ρ S Q Q' k z => wpE_up c k (fun _ _ z => z) z
    have he : TUp (fun ρ S Q => wpE F e ρ S Q noX) (fun ρ S Q => wpE G e ρ S Q noX) := fun ρ S Q Q' k z => wpE_up e k (fun _ _ z => z) z
    exact wpIt_up it (fun l G S1 q1 => wpDc_up hc he (fun S => h _ S) l [] q1) hx q
  | .tup es, _, _, _, _, _, _, h, hx, q => wpEs_up es (fun xs S1 q1 => ⟨q1.1, h _ _ q1.2⟩) hx q
  | .lst es, _, _, _, _, _, _, h, hx, q => wpEs_up es (fun xs S1 q1 => ⟨q1.1, h _ _ q1.2⟩) hx q
  | .call f es, _, _, _, _, _, _, h, hx, q => wpEs_up es (fun xs S1 q1 => hF _ _ _ _ _ _ _ h hx q1) hx q
  | .calld f es d, _, _, _, _, _, _, h, hx, q => wpEs_up es (fun xs S1 q1 => hF _ _ _ _ _ _ _ h hx q1) hx q
  | .callk f es k, _, _, _, _, _, _, h, hx, q => wpEs_up es (fun xs S1 q1 => wpE_up k (fun z S2 q2 => hF _ _ _ _ _ _ _ h hx q2) hx q1) hx q
  | .blt b es, _, _, _, _, _, _, h, hx, q => wpEs_up es (fun xs S1 q1 => bt_mono h q1) hx q
theorem wpEs_up : ∀ (es : Es) {ρ : Env} {S : Store} {Q Q' : List D → Store → Prop} {X X' : XK}, (∀ d S, Q d S → Q' d S) → (∀ c S, X c S → X' c S) → wpEs F es ρ S Q X → wpEs G es ρ S Q' X'
  | .nil, _, _, _, _, _, _, h, _, q => h _ _ q
  | .cons e es, _, _, _, _, _, _, h, hx, q => wpE_up e (fun x S1 q1 => wpEs_up es (fun xs S2 q2 => h _ _ q2) hx q1) hx q
theorem wpIt_up : ∀ (it : It) {ρ : Env} {S : Store} {R R' : List D → (Store → Prop) → Store → Prop} {X X' : XK}, (∀ l G S, R l G S → R' l G S) → (∀ c S, X c S → X' c S) → wpIt F it ρ S R X → wpIt G it ρ S R' X'
  | .seq e, _, _, _, _, _, _, h, hx, q => wpE_up e (fun x S1 q1 => itSeq_mono (fun l G => h l G S1) q1) hx q
  | .enum e, _, _, _, _, _, _, h, hx, q => wpE_up e (fun x S1 q1 => itSeq_mono (fun l G => h _ G S1) q1) hx q
  | .rng a b, _, _, _, _, _, _, h, hx, q => wpE_up a (fun x S1 q1 => wpE_up b (fun y S2 q2 => by
      (repeat' split at q2) <;> first | exact ⟨q2.1, q2.2.1, q2.2.2.1, q2.2.2.2.1, h _ _ _ q2.2.2.2.2⟩ | exact q2) hx q1) hx q
  | .rngd a b, _, _, _, _, _, _, h, hx, q => wpE_up a (fun x S1 q1 => wpE_up b (fun y S2 q2 => by
      (repeat' split at q2) <;> first | exact ⟨q2.1, q2.2.1, q2.2.2.1, q2.2.2.2.1, h _ _ _ q2.2.2.2.2⟩ | exact q2) hx q1) hx q
  | .rng2 a b, _, _, _, _, _, _, h, hx, q => wpE_up a (fun x S1 q1 => wpE_up b (fun y S2 q2 => by
      (repeat' split at q2) <;> first | exact ⟨q2.1, q2.2.1, q2.2.2.1, q2.2.2.2.1, h _ _ _ q2.2.2.2.2⟩ | exact q2) hx q1) hx q
  | .keys e, _, _, _, _, _, _, h, hx, q => wpE_up e (fun x S1 q1 => by
      split at q1
      · split at q1
        · exact h _ _ _ q1
        · exact h _ _ _ q1
        · exact q1
      · exact q1) hx q
  | .chars e, _, _, _, _, _, _, h, hx, q => wpE_up e (fun x S1 q1 => by
      split at q1
      · exact h _ _ _ q1
      · exact q1) hx q
  | .vals e, _, _, _, _, _, _, h, hx, q => wpE_up e (fun x S1 q1 => by
      split at q1
      · split at q1
        · exact h _ _ _ q1
        · exact q1
      · exact q1) hx q
end
end
theorem wpFor_up {t : Tg} {G : Store → Prop} {b b' : Ends → Env → Store → Prop} {K K' : Ends} (hb : BUp b b') (h : Ends.le K K') : ∀ (l : List D) {ρ : Env} {S : Store}, wpFor t G b K l ρ S → wpFor t G b' K' l ρ S
  | [], _, _, q => ⟨q.1, h.nx _ _ q.2⟩
  | d :: r, ρ, S, q => by
    refine ⟨q.1, ?_⟩
    have q2 := q.2
    split at q2
    · exact hb { K with nx := wpFor t G b K r, ct := wpFor t G b K r, bk := K.nx } _ _ _ ⟨fun _ _ => wpFor_up hb h r, h.rt, h.nx, fun _ _ => wpFor_up hb h r, h.xc⟩ q2
    · exact q2
theorem wpDs_up {ev ev' : E → Env → Store → DK → Prop} {dl dr t : Nat} {b b' : Ends → Env → Store → Prop} {K K' : Ends} {fin fin' : Env → Store → Prop} (he : ∀ e ρ S (Q Q' : DK), (∀ d S, Q d S → Q' d S) → ev e ρ S Q → ev' e ρ S Q') (hb : BUp b b') (h : Ends.le K K') (hf : ∀ ρ S, fin ρ S → fin' ρ S) : ∀ (es : List E) {ρ : Env} {S : Store}, wpDs ev dl dr t b K fin es ρ S → wpDs ev' dl dr t b' K' fin' es ρ S
  | [], _, _, q => hf _ _ q
  | e :: es, _, _, q => ⟨q.1, he e _ _ _ _ (fun d S1 q1 => hb { nx := wpDs ev dl dr t b K fin es, rt := K.rt, bk := fun _ _ => False, ct := fun _ _ => False, xc := K.xc } _ _ _ ⟨fun _ _ q2 => wpDs_up he hb h hf es q2, h.rt, fun _ _ z => z, fun _ _ z => z, h.xc⟩ q1) q.2⟩
theorem wpWh_up {c c' : Env → Store → DK → Prop} {b b' : Ends → Env → Store → Prop} {K K' : Ends} (hc : ∀ ρ S (Q Q' : DK), (∀ d S, Q d S → Q' d S) → c ρ S Q → c' ρ S Q') (hb : BUp b b') (h : Ends.le K K') : ∀ (n : Nat) {ρ : Env} {S : Store}, wpWh c b K n ρ S → wpWh c' b' K' n ρ S
  | 0, _, _, q => q
  | n + 1, ρ, S, q => hc _ _ _ _ (fun x S1 q1 => by
      split at q1
      · exact hb { K with nx := wpWh c b K n, ct := wpWh c b K n, bk := K.nx } _ _ _ ⟨fun _ _ => wpWh_up hc hb h n, h.rt, h.nx, fun _ _ => wpWh_up hc hb h n, h.xc⟩ q1
      · exact h.nx _ _ q1
      · exact q1) q
section
variable {F G : Sem} (hF : SemUp F G)
include hF
theorem wpTms_up : ∀ (ts : List Tm) {ds : List D} {nx nx' : Env → Store → Prop} {ρ : Env} {S : Store} {X X' : XK}, (∀ ρ S, nx ρ S → nx' ρ S) → (∀ c S, X c S → X' c S) → wpTms F ts ds nx ρ S X → wpTms G ts ds nx' ρ S X'
  | [], ds, _, _, _, _, _, _, h, _, q => by
    cases ds with
    | nil => exact h _ _ q
    | cons _ _ => exact q
  | .tg t :: ts, ds, _, _, ρ, _, _, _, h, hx, q => by
    cases ds with
    | nil => exact q
    | cons d r =>
      unfold wpTms at *
      dsimp only at q ⊢
      split at q
      · exact wpTms_up ts h hx q
      · exact q
  | .sub o i :: ts, ds, _, _, _, _, _, _, h, hx, q => by
    cases ds with
    | nil => exact q
    | cons d r => exact wpE_up hF o (fun y S2 q2 => wpE_up hF i (fun z S3 q3 => setIx_mono (fun S4 q4 => wpTms_up ts h hx q4) q3) hx q2) hx q
  | .att c o f :: ts, ds, _, _, _, _, _, _, h, hx, q => by
    cases ds with
    | nil => exact q
    | cons d r => exact wpE_up hF o (fun y S2 q2 => setAt_mono (fun S3 q3 => wpTms_up ts h hx q3) q2) hx q
mutual
theorem wpC_up : ∀ (c : C) {K K' : Ends} {ρ : Env} {S : Store}, Ends.le K K' → wpC F c K ρ S → wpC G c K' ρ S
  | .bad, _, _, _, _, _, q => q
  | .set i e, _, _, _, _, h, q => wpE_up hF e (fun x S1 => h.nx _ _) h.xc q
  | .asg t e, _, _, _, _, h, q => wpE_up hF e (fun x S1 q1 => by
      split at q1
      · exact h.nx _ _ q1
      · exact q1) h.xc q
  | .asgm ts e, _, _, _, _, h, q => wpE_up hF e (fun x S1 q1 => by
      split at q1
      · exact ⟨q1.1, wpTms_up hF ts h.nx h.xc q1.2⟩
      · exact q1) h.xc q
  | .par i j a b, _, _, _, _, h, q => wpE_up hF a (fun x S1 q1 => wpE_up hF b (fun y S2 => h.nx _ _) h.xc q1) h.xc q
  | .star i j e, _, _, _, _, h, q => wpE_up hF e (fun x S1 q1 => by
      split at q1
      · exact h.nx _ _ q1
      · exact q1) h.xc q
  | .unp i j e, _, _, _, _, h, q => wpE_up hF e (fun x S1 q1 => by
      split at q1
      · exact h.nx _ _ q1
      · exact q1) h.xc q
  | .setA c o f e, _, _, _, _, h, q => wpE_up hF e (fun x S1 q1 => wpE_up hF o (fun y S2 q2 => setAt_mono (fun S => h.nx _ _) q2) h.xc q1) h.xc q
  | .aug i op e, _, _, ρ, _, h, q => by
    unfold wpC at *
    split at q
    · exact wpE_up hF e (fun y S1 q1 => iop_mono (fun z S2 => h.nx _ _) q1) h.xc q
    · exact q
  | .augA c o f op e, _, _, _, _, h, q => wpE_up hF o (fun x S1 q1 => by
      (repeat' split at q1) <;> first | exact ⟨q1.1, wpE_up hF e (fun y S2 q2 => iop_mono (fun z S3 q3 => setAt_mono (fun S4 => h.nx _ _) q3) q2) h.xc q1.2⟩ | exact q1) h.xc q
  | .augX o i op e, _, _, _, _, h, q => wpE_up hF o (fun x S1 q1 => wpE_up hF i (fun y S2 q2 => ixD_mono (fun z S3 q3 => wpE_up hF e (fun w S4 q4 => iop_mono (fun r S5 q5 => setIx_mono (fun S6 => h.nx _ _) q5) q4) h.xc q3) q2) h.xc q1) h.xc q
  | .pass, _, _, _, _, h, q => h.nx _ _ q
  | .raise c, _, _, _, _, h, q => h.xc _ _ q
  | .setIx o i e, _, _, _, _, h, q => wpE_up hF e (fun x S1 q1 => wpE_up hF o (fun y S2 q2 => wpE_up hF i (fun z S3 q3 => setIx_mono (fun S => h.nx _ _) q3) h.xc q2) h.xc q1) h.xc q
  | .setP o a b e, _, _, _, _, h, q => wpE_up hF e (fun x S1 q1 => wpE_up hF o (fun y S2 q2 => wpE_up hF a (fun z S3 q3 => wpE_up hF b (fun w S4 q4 => pSet_mono (fun S => h.nx _ _) q4) h.xc q3) h.xc q2) h.xc q1) h.xc q
  | .ret e, _, _, _, _, h, q => wpE_up hF e h.rt h.xc q
  | .ex e, _, _, _, _, h, q => wpE_up hF e (fun x S1 => h.nx _ _) h.xc q
  | .cond c a b, _, _, _, _, h, q => wpE_up hF c (fun x S1 q1 => by
      split at q1
      · exact wpCs_up a h q1
      · exact wpCs_up b h q1
      · exact q1) h.xc q
  | .whl c b, _, _, _, _, h, q => by
    obtain ⟨n, q⟩ := q
    have hb : BUp (wpCs F b) (wpCs G b) := fun K K' ρ S hk qq => wpCs_up b hk qq
    refine ⟨n, wpWh_up ?_ hb h n q⟩
    exact fun ρ S Q Q' hq qq => wpE_up hF c hq h.xc qq
  | .for_ t it b, K, K', ρ, S, h, q => by
    have hb : BUp (wpCs F b) (wpCs G b) := fun K K' ρ S hk qq => wpCs_up b hk qq
    exact wpIt_up hF it (R := fun l G S1 => wpFor t G (wpCs F b) K l ρ S1) (fun l G S1 q1 => wpFor_up hb h l q1) h.xc q
theorem wpCs_up : ∀ (cs : Cs) {K K' : Ends} {ρ : Env} {S : Store}, Ends.le K K' → wpCs F cs K ρ S → wpCs G cs K' ρ S
  | .nil, _, _, _, _, h, q => h.nx _ _ q
  | .cons c cs, K, K', _, _, h, q => wpC_up c (K := { K with nx := fun ρ1 S1 => wpCs F cs K ρ1 S1 }) ⟨fun ρ S q1 => wpCs_up cs h q1, h.rt, h.bk, h.ct, h.xc⟩ q
  | .doors dl dr t ws e1 e2 e3 b r, K, K', ρ, S, h, q => by
    have hb : BUp (wpCs F b) (wpCs G b) := fun K K' ρ S hk qq => wpCs_up b hk qq
    exact wpDs_up (ev := fun e ρ S Q => wpE F e ρ S Q K.xc) (fun e ρ S Q Q' hq qq => wpE_up hF e hq h.xc qq) hb h (fun ρ S z => wpCs_up r h z) _ q
end
end
theorem callN_up (P : Prog) : ∀ n m, n ≤ m → SemUp (callN P n) (callN P m)
  | 0, _, _ => fun _ _ _ _ _ _ _ _ _ q => q.elim
  | n + 1, 0, h => absurd h (by omega)
  | n + 1, m + 1, hn => fun f ds S Q Q' X X' h hx q => by
    unfold callN at *
    split at q
    · exact ⟨q.1, wpCs_up (callN_up P n m (by omega)) _ (K := rtEnds Q X) ⟨fun _ S => h _ S, h, fun _ _ z => z, fun _ _ z => z, hx⟩ q.2⟩
    · split at q
      · rename_i hf
        rw [if_pos hf]
        exact callN_up P n m (by omega) _ _ _ _ _ _ _ h hx q
      · exact q.elim
theorem lift {P : Prog} {n m f : Nat} {ds : List D} {S : Store} {Q : DK} {X : XK} (h : n ≤ m) (q : callZ P n f ds S Q X) : callZ P m f ds S Q X := by
  rw [callZ_eq] at *
  exact callN_up P n m h f ds S Q Q X X (fun _ _ z => z) (fun _ _ z => z) q
end Mn
namespace Mn
open PySem
theorem perm_eq {α : Type} (le : α → α → Prop) (anti : ∀ a b, le a b → le b a → a = b) : ∀ (l m : List α), l.Pairwise le → m.Pairwise le → l.Perm m → l = m
  | [], m, _, _, p => (List.nil_perm.mp p).symm
  | a :: l, [], _, _, p => by cases (List.perm_nil.mp p)
  | a :: l, b :: m, hl, hm, p => by
    have e : a = b := by
      have ha : a ∈ b :: m := p.subset List.mem_cons_self
      have hb : b ∈ a :: l := p.symm.subset List.mem_cons_self
      rcases List.mem_cons.mp ha with e | ha'
      · exact e
      rcases List.mem_cons.mp hb with e | hb'
      · exact e.symm
      exact anti a b (List.rel_of_pairwise_cons hl hb') (List.rel_of_pairwise_cons hm ha')
    subst e
    rw [perm_eq le anti l m hl.tail hm.tail p.cons_inv]
theorem nodup_map {α β : Type} (f : α → β) (hf : ∀ a b, f a = f b → a = b) {l : List α} (h : l.Nodup) : (l.map f).Nodup := List.Pairwise.map f (fun a b hab e => hab (hf a b e)) h
structure LinB {α : Type} (le : α → α → Bool) : Prop where
  trans : ∀ a b c, le a b = true → le b c = true → le a c = true
  total : ∀ a b, (le a b || le b a) = true
  anti : ∀ a b, le a b = true → le b a = true → a = b
theorem LinB.sorted {α : Type} {le : α → α → Bool} (h : LinB le) (l : List α) : (l.mergeSort le).Pairwise fun a b => le a b = true := List.pairwise_mergeSort h.trans h.total l
theorem LinB.sort_eq {α : Type} {le : α → α → Bool} (h : LinB le) {l m : List α} (p : l.Perm m) : l.mergeSort le = m.mergeSort le :=
  perm_eq (fun a b => le a b = true) h.anti _ _ (h.sorted l) (h.sorted m) ((List.mergeSort_perm l le).trans (p.trans (List.mergeSort_perm m le).symm))
abbrev Pr := (Int × Int) × Int
def prD (p : Pr) : D := .tup [itD p.1, .int p.2]
def prLt (p q : Pr) : Bool := decide (p.1.1 < q.1.1 ∨ (p.1.1 = q.1.1 ∧ (p.1.2 < q.1.2 ∨ (p.1.2 = q.1.2 ∧ p.2 < q.2))))
def prLe (p q : Pr) : Bool := decide (p.1.1 < q.1.1 ∨ (p.1.1 = q.1.1 ∧ (p.1.2 < q.1.2 ∨ (p.1.2 = q.1.2 ∧ p.2 ≤ q.2))))
def sortPr (l : List Pr) : List Pr := l.mergeSort prLe
theorem lin_pr : LinB prLe := by
  refine ⟨fun a b c h1 h2 => ?_, fun a b => ?_, fun a b h1 h2 => ?_⟩
  · have h1 := of_decide_eq_true h1
    have h2 := of_decide_eq_true h2
    exact decide_eq_true (by omega)
  · unfold prLe
    rw [Bool.or_eq_true, decide_eq_true_iff, decide_eq_true_iff]
    omega
  · have h1 := of_decide_eq_true h1
    have h2 := of_decide_eq_true h2
    exact Prod.ext (Prod.ext (by omega) (by omega)) (by omega)
theorem eqv_it (p q : Int × Int) : PyData.eqv (itD p).py (itD q).py = decide (p = q) := by
  obtain ⟨a, b⟩ := p
  obtain ⟨c, d⟩ := q
  show (PyData.eqv (.int a) (.int c) && (PyData.eqv (.int b) (.int d) && true)) = _
  simp only [PyData.eqv]
  by_cases h1 : a = c <;> by_cases h2 : b = d <;> simp [h1, h2]
theorem dlt_pr (p q : Pr) : PySem.W.dataLt (prD p).py (prD q).py = prLt p q := by
  have e := PySem.W.dataLt_pair (x := (itD p.1).py) (y := .int p.2) (x' := (itD q.1).py) (y' := .int q.2) (by simp [D.py, itD, pys, PySem.W.alike, PySem.W.alikeAll]) (by simp [PySem.W.alike])
  have e2 : PySem.W.dataLt (prD p).py (prD q).py = PySem.W.dataLt (.tuple [(itD p.1).py, .int p.2]) (.tuple [(itD q.1).py, .int q.2]) := rfl
  rw [e2, e, eqv_it, dlt_it, PySem.W.dataLt_int]
  have e3 : PyData.eqv (.int p.2) (.int q.2) = decide (p.2 = q.2) := by
    simp only [PyData.eqv]
    by_cases h : p.2 = q.2 <;> simp [h]
  rw [e3]
  obtain ⟨⟨a, b⟩, c⟩ := p
  obtain ⟨⟨a', b'⟩, c'⟩ := q
  unfold prLt itLt
  simp only [Prod.mk.injEq, decide_eq_true_eq]
  by_cases h1 : a = a' ∧ b = b'
  · obtain ⟨rfl, rfl⟩ := h1
    by_cases h2 : c = c'
    · subst h2
      simp
    · simp [h2]
  · rw [if_neg h1]
    congr 1
    apply propext
    omega
theorem sortD_pr (l : List Pr) : sortD (l.map prD) = (sortPr l).map prD := by
  refine sortD_map _ _ (fun a b => ?_) l
  show (!PySem.W.dataLt (prD b).py (prD a).py) = _
  rw [dlt_pr]
  unfold prLt prLe
  by_cases h : b.1.1 < a.1.1 ∨ (b.1.1 = a.1.1 ∧ (b.1.2 < a.1.2 ∨ (b.1.2 = a.1.2 ∧ b.2 < a.2)))
  · rw [decide_eq_true h, decide_eq_false (by omega)]
    rfl
  · rw [decide_eq_false h, decide_eq_true (by omega)]
    rfl
theorem ord_prs (l : List Pr) : OrdOk (l.map prD) := by
  refine ⟨purs_map _ _ fun _ _ => rfl, ?_, .inl ?_, ?_⟩
  · rw [pysF_map]
    intro d hd d' hd'
    obtain ⟨a, _, rfl⟩ := List.mem_map.mp hd
    obtain ⟨b, _, rfl⟩ := List.mem_map.mp hd'
    simp [D.py, prD, itD, pys, PySem.W.alike, PySem.W.alikeAll]
  · rw [pysF_map]
    intro d hd
    obtain ⟨a, _, rfl⟩ := List.mem_map.mp hd
    exact ⟨_, _, rfl⟩
  · rw [pysF_map]
    intro d hd
    obtain ⟨a, _, rfl⟩ := List.mem_map.mp hd
    show (PyData.tuple [.tuple [.int a.1.1, .int a.1.2], .int a.2]).depth ≤ 60
    have : (PyData.tuple [.tuple [.int a.1.1, .int a.1.2], .int a.2]).depth = 2 := rfl
    omega
end Mn
namespace Mn
open PySem
end Mn
namespace Mn
open PySem
theorem addf_goT {S : Store} {a : Nat} {l m : List D} {Q : DK} (h1 : S[a]? = some (.lst l)) (hl : l.length + m.length ≤ 1000000) (q : Q (.ref S.length) (S ++ [.lst (l ++ m)])) : bop .Add (.ref a) (.fl m) S Q := by
  show (match lq? S (.ref a), lq? S (.fl m) with | some l, some m => l.length + m.length ≤ lim ∧ Q (.ref S.length) (S ++ [.lst (l ++ m)]) | _, _ => False)
  rw [lq_of h1]
  exact ⟨hl, q⟩
end Mn
namespace Mn
open PySem
theorem seq_of {S : Store} {n : Nat} {l : List D} (h : S[n]? = some (.lst l)) : seq? S (.ref n) = some l := lst_of h
theorem set_at {S : Store} {s : Nat} {o o' : Ob} (h : S[s]? = some o) : (S.set s o')[s]? = some o' := List.getElem?_set_self (List.getElem?_eq_some_iff.mp h).1
theorem stir_ok (n : Nat) (c k : Int) (S : Store) (Q : DK) (X : XK) (h0 : 0 ≤ k) (h1 : k ≤ 1000000) (q : ∀ i, Q (.int i) S) : callZ PP (n + 1) f_law_stir [.int c, .int k] S Q X := by
  refine enter rfl rfl ?_
  have hc : 0 ≤ c % (10 ^ 60) ∧ c % (10 ^ 60) < 10 ^ 60 := ⟨Int.emod_nonneg _ (by decide), Int.emod_lt_of_pos _ (by decide)⟩
  have s10 : Sm 10 := Sm.of_le (by decide) (by decide)
  have sk : Sm k := Sm.of_le (by omega) (by omega)
  refine ⟨by decide, by decide, s10, by show (0 : Int) < 10 ^ 60; decide, ?_⟩
  refine ⟨Sm.of_le (by decide) (by decide), sk, ?_⟩
  refine ⟨?_, Sm.of_le (by decide) (by decide), ?_⟩
  · show Sm (c % 10 ^ 60 + 7919 * k + 1)
    refine Sm.of_nat (a := 210) ?_ (by decide)
    omega
  generalize hN : (c % (10 : Int) ^ (60 : Int).toNat + 7919 * k + 1) * 27182818284590452353602874713527 = N
  refine ⟨by decide, ?_⟩
  have hm : 0 ≤ N % 170141183460469231731687303715884105727 ∧ N % 170141183460469231731687303715884105727 < 170141183460469231731687303715884105727 := ⟨Int.emod_nonneg _ (by decide), Int.emod_lt_of_pos _ (by decide)⟩
  generalize hM : N % 170141183460469231731687303715884105727 = M
  rw [hM] at hm
  refine ⟨by decide, by decide, Sm.of_le (by omega) (by omega), Sm.of_le (by decide) (by decide), sk, ?_⟩
  refine ⟨by decide, by decide, ?_, ?_⟩
  · show Sm (M ^ 5 + 48271 * k)
    have b1 : (M ^ 5).natAbs < 2 ^ 640 := by
      rw [Int.natAbs_pow]
      have : M.natAbs < 2 ^ 128 := by omega
      exact Nat.lt_of_lt_of_le (Nat.pow_lt_pow_left this (by decide)) (by decide)
    refine Sm.of_nat (a := 641) ?_ (by decide)
    omega
  exact ⟨by decide, by decide, Sm.of_le (by decide) (by decide), q _⟩
theorem take_ok (n : Nat) (c r k z sz : Int) (s : Nat) (S : Store) (Q : DK) (X : XK) (hs : S[s]? = some (.lst [.int c, .int r, .int k, .int z])) (h0 : 0 ≤ k) (h1 : k < 1000000) (p0 : 0 < sz) (p1 : sz ≤ 10 ^ 60)
    (q : ∀ i r', 0 ≤ i → i < sz → Q (.int i) (S.set s (.lst [.int c, .int r', .int (k + 1), .int z]))) : callZ PP (n + 2) f_law_take [.ref s, .int sz] S Q X := by
  refine enter rfl rfl ?_
  have ssz : Sm sz := Sm.of_le (by omega) (by omega)
  conv => whnf
  rw [seq_of hs]
  conv => whnf
  rw [hs]
  conv => whnf
  have hs1 : (S.set s (.lst ([D.int c, .int r, .int k, .int z].set (Int.toNat 2) (.int (k + 1)))))[s]? = some (.lst [.int c, .int r, .int (k + 1), .int z]) := set_at hs
  rw [seq_of hs1]
  refine ⟨by decide, by decide, Sm.of_le (by decide) (by decide), ?_⟩
  have fin : ∀ i, Q (.int (i % sz)) (S.set s (.lst [.int c, .int r, .int (k + 1), .int z])) := fun i => q _ r (Int.emod_nonneg _ (by omega)) (Int.emod_lt_of_pos _ p0)
  have tail : wpCs (callZ PP (n + 1)) (.cons (.ret (.bin .Mod (.call f_law_stir (.cons (.ix (.v 0) (.cst (.int 0))) (.cons (.ix (.v 0) (.cst (.int 2))) .nil))) (.v 1))) .nil) (rtEnds Q X) (startE b_law_take [.ref s, .int sz]) (S.set s (.lst ([D.int c, .int r, .int k, .int z].set (Int.toNat 2) (.int (k + 1))))) := by
    conv => whnf
    rw [seq_of hs1]
    conv => whnf
    rw [seq_of hs1]
    exact stir_ok n c (k + 1) _ _ _ (by omega) (by omega) fun i => ⟨p0, fin i⟩
  conv => whnf
  cases decide ((10 : Int) ^ (18 : Int).toNat ≤ c) with
  | false => exact tail
  | true =>
    conv => whnf
    rw [seq_of hs1]
    conv => whnf
    cases decide (0 < r) with
    | false => exact tail
    | true =>
      conv => whnf
      rw [seq_of hs1]
      refine ⟨p0, ?_⟩
      conv => whnf
      rw [seq_of hs1]
      refine ⟨p0, ssz, ?_⟩
      conv => whnf
      rw [hs1]
      conv => whnf
      rw [List.set_set]
      exact q _ (r / sz) (Int.emod_nonneg _ (by omega)) (Int.emod_lt_of_pos _ p0)
def Src (S : Store) (s : Nat) (k : Int) : Prop := ∃ c r z, S[s]? = some (.lst [.int c, .int r, .int k, .int z])
theorem take_src (n : Nat) (k sz : Int) (s : Nat) (S : Store) (Q : DK) (X : XK) (hs : Src S s k) (h0 : 0 ≤ k) (h1 : k < 1000000) (p0 : 0 < sz) (p1 : sz ≤ 10 ^ 60)
    (q : ∀ i S', 0 ≤ i → i < sz → S'.length = S.length → Fr s S S' → Src S' s (k + 1) → Q (.int i) S') : callZ PP (n + 2) f_law_take [.ref s, .int sz] S Q X := by
  obtain ⟨c, r, z, hs⟩ := hs
  exact take_ok n c r k z sz s S Q X hs h0 h1 p0 p1 fun i r' a b => q i _ a b (List.length_set ..) (Fr.set _) ⟨c, r', z, set_at hs⟩
theorem nle {a b : Nat} (h : Nat.ble a b = true := by rfl) : a ≤ b := Nat.le_of_ble_eq_true h
theorem len_of {S : Store} {t : Nat} {l : List D} (h : lst? S t = some l) : len? S (.ref t) = some l.length := by
  unfold len?
  dsimp only
  rw [(lst_lt h).2]
theorem Src.push {S : Store} {s : Nat} {k : Int} (h : Src S s k) (T : List Ob) : Src (S ++ T) s k := by
  obtain ⟨c, r, z, h⟩ := h
  exact ⟨c, r, z, by rw [List.getElem?_append_left (List.getElem?_eq_some_iff.mp h).1]; exact h⟩
theorem Src.lt {S : Store} {s : Nat} {k : Int} (h : Src S s k) : s < S.length := by
  obtain ⟨c, r, z, h⟩ := h
  exact (List.getElem?_eq_some_iff.mp h).1
end Mn
namespace Mn
open PySem
theorem one_of_ok (n : Nat) (k : Int) (s t : Nat) (l : List D) (S : Store) (Q : DK) (X : XK) (hs : Src S s k) (h0 : 0 ≤ k) (h1 : k < 1000000) (ht : lst? S t = some l) (hn : t ≠ s) (hl : 0 < l.length) (hl2 : l.length ≤ 1000)
    (q : ∀ d S', d ∈ l → S'.length = S.length → Fr s S S' → Src S' s (k + 1) → Q d S') : callZ PP (n + 3) f_law_one_of [.ref s, .ref t] S Q X := by
  refine enter rfl rfl ?_
  conv => whnf
  rw [len_of ht]
  refine ⟨by show l.length ≤ 1000000; omega, ?_⟩
  refine take_src n k _ s S _ _ hs h0 h1 (by omega) (by omega) fun i S' a b e f hs' => ?_
  conv => whnf
  rw [show seq? S' (.ref t) = some l from f.lst ht hn]
  conv => whnf
  have hi : i.toNat < l.length := by omega
  have e2 : L2.atI l i = some l[i.toNat] := by
    have := L2.atI_nat (xs := l) (j := i.toNat) (v := l[i.toNat]) (List.getElem?_eq_getElem hi)
    rwa [Int.toNat_of_nonneg a] at this
  rw [e2]
  exact q _ S' (List.getElem_mem hi) e f hs'
end Mn
namespace Mn
open PySem
def D.dat (d : D) : Bool := d.pur && d.py.canLay0
theorem dat_pur {d : D} (h : d.dat = true) : d.pur = true := (Bool.and_eq_true_iff.mp h).1
theorem dat_lay {d : D} (h : d.dat = true) : d.py.canLay0 = true := (Bool.and_eq_true_iff.mp h).2
theorem purs_lay {l : List D} (h : (D.tup l).dat = true) : PyData.canLayAll0 (pys l) = true := dat_lay h
mutual
theorem pur_snap (S : Store) : ∀ {d : D}, d.pur = true → Snap S d d.py
  | .int i, _ => .int i
  | .tup l, h => .tup (purs_snap S h)
  | .non, _ => .non
  | .bl b, _ => .bl b
  | .str x, _ => .str x
  | .fl _, h => by cases h
  | .ref _, h => by cases h
theorem purs_snap (S : Store) : ∀ {l : List D}, purs l = true → Snaps S l (pys l)
  | [], _ => .nil
  | d :: r, h => by
    obtain ⟨h1, h2⟩ := Bool.and_eq_true_iff.mp (show (d.pur && purs r) = true from h)
    exact .cons (pur_snap S h1) (purs_snap S h2)
end
theorem eqnil_pur {S : Store} {l : List D} {K : Bool → Prop} (h : (D.tup l).dat = true) (k : K l.isEmpty) : cmpB .Eq (.tup l) (.tup []) S K := eq_nil (purs_snap S (dat_pur h)) (purs_lay h) k
theorem nenil_pur {S : Store} {l : List D} {K : Bool → Prop} (h : (D.tup l).dat = true) (k : K (!l.isEmpty)) : cmpB .NotEq (.tup l) (.tup []) S K := eq_nil (K := fun b => K (!b)) (purs_snap S (dat_pur h)) (purs_lay h) k
mutual
theorem num_pur : ∀ {d : D}, d.num = true → d.pur = true
  | .int i, _ => rfl
  | .tup l, h => nums_pur h
  | .non, h => by cases h
  | .bl _, h => by cases h
  | .str _, h => by cases h
  | .fl _, h => by cases h
  | .ref _, h => by cases h
theorem nums_pur : ∀ {l : List D}, nums l = true → purs l = true
  | [], _ => rfl
  | d :: r, h => by
    obtain ⟨h1, h2⟩ := Bool.and_eq_true_iff.mp (show (d.num && nums r) = true from h)
    show (d.pur && purs r) = true
    rw [num_pur h1, nums_pur h2]
    rfl
end
theorem num_dat {d : D} (h : d.num = true) : d.dat = true := by
  unfold D.dat
  rw [num_pur h, num_lay h]
  rfl
end Mn
namespace Mn
open PySem
theorem rng_len (a b : Int) : (rngL a b).length = (b - a).toNat := by unfold rngL; simp
theorem want_sm {k : Nat} (h : k ≤ 1000) : Sm (wantN k) := by
  have h1 := want_pos k
  have h2 := want_le k
  have h3 : (2 : Int) ^ k ≤ 2 ^ 1000 := by
    have : (2 : Nat) ^ k ≤ 2 ^ 1000 := Nat.pow_le_pow_right (by decide) h
    exact_mod_cast this
  refine Sm.of_nat (a := 1001) ?_ (by decide)
  have h4 : wantN k ≤ 2 ^ 1000 := Int.le_trans h2 h3
  have h5 : (wantN k).natAbs ≤ 2 ^ 1000 := by
    have e : (2 : Int) ^ 1000 = ((2 ^ 1000 : Nat) : Int) := by norm_cast
    rw [e] at h4
    omega
  exact Nat.lt_of_le_of_lt h5 (Nat.pow_lt_pow_right (by decide) (by decide))
theorem want_of_ok (n : Nat) (r s : Int) (S : Store) (Q : DK) (X : XK) (h1 : -1000 ≤ r - s) (h2 : r - s ≤ 1000) (h : Q (.int (want r s)) S) : callZ PP (n + 1) f_want_of [.int r, .int s] S Q X := by
  refine enter rfl rfl ?_
  refine ⟨by decide, by decide, by show -1000000 ≤ r - s; omega, by show r - s ≤ 1000000; omega, ?_⟩
  refine for_at (bmono _) _ (fun i ρ S' => ∃ x, ρ = [some (.int r), some (.int s), some (.int (wantN i)), x] ∧ S' = S ∧ i ≤ (r - s).toNat) ?_ ?_ ?_ ⟨_, rfl, rfl, Nat.zero_le _⟩
  · exact fun _ _ _ _ => trivial
  · rintro ρ S' ⟨x, rfl, rfl, hi⟩
    show Q (.int (wantN _)) S'
    rw [rng_len, Int.sub_zero]
    exact h
  · rintro i d hd ρ S' ⟨x, rfl, rfl, hi⟩
    refine ⟨_, rfl, ?_⟩
    have hw := want_pos i
    have hl : i < (r - s).toNat := by
      have := (List.getElem?_eq_some_iff.mp hd).1
      rwa [rng_len, Int.sub_zero] at this
    refine ⟨Sm.of_le (by decide) (by decide), want_sm (by omega), ?_⟩
    exact ⟨by decide, Sm.of_le (by decide) (by decide), _, rfl, rfl, hl⟩
end Mn
namespace Mn
open PySem
end Mn
namespace Mn
open PySem
def SH.items : SH → List (Int × Int)
  | .nil => []
  | .node _ _ row a b => row ++ (a.items ++ b.items)
def itemsL (l : List SH) : List (Int × Int) := l.flatMap SH.items
def nodesL (l : List SH) : Nat := (l.map SH.nodes).sum
def dsL (l : List SH) : List D := l.map SH.d
def KeysIn (kvs : List (Key × D)) (l : List (Int × Int)) : Prop := ∀ p ∈ kvs, ∃ i ∈ l, p.1 = .inl i.2
theorem KeysIn.put {kvs : List (Key × D)} {l : List (Int × Int)} {i : Int × Int} {v : D} (h : KeysIn kvs l) (hi : i ∈ l) : KeysIn (dPut kvs (.inl i.2) v) l := by
  intro p hp
  unfold dPut at hp
  split at hp
  · obtain ⟨q, hq, e⟩ := List.mem_map.mp hp
    split at e
    · rename_i hk
      rw [← e]
      exact ⟨i, hi, hk⟩
    · rw [← e]
      exact h q hq
  · rcases List.mem_append.mp hp with hp | hp
    · exact h p hp
    · rw [List.mem_singleton.mp hp]
      exact ⟨i, hi, rfl⟩
theorem dPut_len (kvs : List (Key × D)) (k : Key) (v : D) : (dPut kvs k v).length ≤ kvs.length + 1 := by
  unfold dPut
  split <;> simp
theorem dsL_num (l : List SH) : nums (dsL l) = true := by
  induction l with
  | nil => rfl
  | cons t l ih =>
    show (nums t.l && nums (dsL l)) = true
    rw [sh_num, ih]
    rfl
def sides (a b : SH) : List SH := [a, b].filter fun t => !t.isNil
def notNil : D → Bool
  | .tup [] => false
  | _ => true
theorem notNil_d (t : SH) : notNil t.d = !t.isNil := by cases t <;> rfl
theorem sides_d (a b : SH) : ([a.d, b.d].filter notNil).map id = dsL (sides a b) := by
  unfold sides dsL
  rw [List.map_id]
  simp only [List.filter_cons, notNil_d, List.filter_nil]
  cases a.isNil <;> cases b.isNil <;> rfl
theorem tickets_ok (n : Nat) (l : List SH) (S : Store) (Q : DK) (X : XK) (hne : ∀ t ∈ l, t.isNil = false) (hc : nodesL l ≤ 10000) (hi : (itemsL l).length ≤ 10000)
    (h : ∀ kvs S', Ext S S' → S'[S.length]? = some (.dct kvs) → KeysIn kvs (itemsL l) → kvs.length ≤ 10000 → Q (.ref S.length) S') : callZ PP (n + 1) f_tickets_in [.tup (dsL l)] S Q X := by
  refine enter rfl rfl ?_
  conv => whnf
  refine wh_at (tmono _) (bmono _) (fun f ρ S' => ∃ (ts : List SH) (kvs : List (Key × D)) (x3 x4 x5 x6 x7 x8 x9 : Option D), ρ = [some (.tup (dsL l)), some (.ref S.length), some (.ref (S.length + 1)), x3, x4, x5, x6, x7, x8, x9] ∧ Ext S S' ∧ S'[S.length]? = some (.dct kvs) ∧ S'[S.length + 1]? = some (.lst (dsL ts)) ∧ nodesL ts ≤ f ∧ f ≤ 10000 ∧ (∀ t ∈ ts, t.isNil = false) ∧ (∀ i ∈ itemsL ts, i ∈ itemsL l) ∧ KeysIn kvs (itemsL l) ∧ kvs.length + (itemsL ts).length ≤ 10000) ?_ (nodesL l) ?_
  · rintro f ρ S' ⟨ts, kvs, x3, x4, x5, x6, x7, x8, x9, rfl, hx, hd, hw, hf, hf2, htn, hit, hk, hlen⟩
    refine ⟨nle, ?_⟩
    refine lnil_ne (l := dsL ts) (lst_of (get_push hw _)) (last_lst2 S' []) rfl (nums_snap _ (dsL_num ts)) (nums_lay (dsL_num ts)) ?_
    have hd1 := get_push hd [.lst []]
    have hw1 := get_push hw [.lst []]
    have hx1 : Ext S (S' ++ [.lst []]) := hx.trans (Ext.push _ _)
    generalize S' ++ [.lst []] = S1 at hd1 hw1 hx1
    rcases List.eq_nil_or_concat ts with rfl | ⟨us, t, rfl⟩
    · exact h kvs S1 hx1 hd1 hk (by omega)
    · have htn1 : t.isNil = false := htn t (by simp)
      cases t with
      | nil => cases htn1
      | node r k row a b =>
        have e1 : (dsL (us ++ [SH.node r k row a b])).isEmpty = false := by simp [dsL]
        rw [List.concat_eq_append] at *
        rw [e1]
        have e2 : dsL (us ++ [SH.node r k row a b]) = dsL us ++ [(SH.node r k row a b).d] := by simp [dsL]
        rw [e2] at hw1
        refine ⟨recv_l hw1, es_nil (pop_go hw1 ?_)⟩
        have hd2 : (S1.set (S.length + 1) (.lst (dsL us)))[S.length]? = some (.dct kvs) := get_set_ne hd1 (by omega)
        have hw2 : (S1.set (S.length + 1) (.lst (dsL us)))[S.length + 1]? = some (.lst (dsL us)) := get_set hw1
        have hx2 : Ext S (S1.set (S.length + 1) (.lst (dsL us))) := hx1.set (by omega) _
        generalize S1.set (S.length + 1) (.lst (dsL us)) = S2 at hd2 hw2 hx2
        have hin : ∀ i ∈ row ++ (a.items ++ b.items), i ∈ itemsL l := fun i hi => hit i (by
          unfold itemsL
          rw [List.flatMap_append]
          exact List.mem_append_right _ (by simpa [SH.items] using hi))
        have hus : ∀ i ∈ itemsL us, i ∈ itemsL l := fun i hi => hit i (by
          unfold itemsL
          rw [List.flatMap_append]
          exact List.mem_append_left _ hi)
        have hlen2 : kvs.length + ((itemsL us).length + (row.length + (a.items.length + b.items.length))) ≤ 10000 := by
          have e : itemsL (us ++ [SH.node r k row a b]) = itemsL us ++ (row ++ (a.items ++ b.items)) := by
            unfold itemsL
            rw [List.flatMap_append]
            simp [SH.items]
          rw [e] at hlen
          simp at hlen
          omega
        refine for_at (bmono _) (row.map itD) (fun j ρ S3 => ∃ kvs3 y8 y9, ρ = [some (.tup (dsL l)), some (.ref S.length), some (.ref (S.length + 1)), some (.int r), some (.int k), some (.tup (row.map itD)), some a.d, some b.d, y8, y9] ∧ Ext S S3 ∧ S3[S.length]? = some (.dct kvs3) ∧ S3[S.length + 1]? = some (.lst (dsL us)) ∧ KeysIn kvs3 (itemsL l) ∧ kvs3.length ≤ kvs.length + j ∧ j ≤ row.length) ?_ ?_ ?_ ⟨kvs, _, _, rfl, hx2, hd2, hw2, hk, Nat.le_refl _, Nat.zero_le _⟩
        · exact fun _ _ _ _ => trivial
        · rintro ρ S3 ⟨kvs3, y8, y9, rfl, hx3, hd3, hw3, hk3, hl3, _⟩
          rw [List.length_map] at hl3
          have aug : wpC (callZ PP n) (.aug 2 .Add (.lc [9] (.nm 9) (.seq (.tup (.cons (.v 6) (.cons (.v 7) .nil)))) (.cmp .NotEq (.v 9) (.tup .nil)) (.v 9))) ⟨fun ρ S4 => ∃ m, m < f ∧ ∃ (ts : List SH) (kvs : List (Key × D)) (x3 x4 x5 x6 x7 x8 x9 : Option D), ρ = [some (.tup (dsL l)), some (.ref S.length), some (.ref (S.length + 1)), x3, x4, x5, x6, x7, x8, x9] ∧ Ext S S4 ∧ S4[S.length]? = some (.dct kvs) ∧ S4[S.length + 1]? = some (.lst (dsL ts)) ∧ nodesL ts ≤ m ∧ m ≤ 10000 ∧ (∀ t ∈ ts, t.isNil = false) ∧ (∀ i ∈ itemsL ts, i ∈ itemsL l) ∧ KeysIn kvs (itemsL l) ∧ kvs.length + (itemsL ts).length ≤ 10000, Q, fun _ _ => False, fun _ _ => False, X⟩
              [some (.tup (dsL l)), some (.ref S.length), some (.ref (S.length + 1)), some (.int r), some (.int k), some (.tup (row.map itD)), some a.d, some b.d, y8, y9] S3 := by
            refine ⟨nle, it_tup ?_⟩
            refine lc_map (G := fun _ => True) (S1 := S3) (tmono _) (tmono _) notNil id [a.d, b.d] [] (fun _ => trivial) nle ?_ ?_
            · intro d hd
              refine ⟨_, rfl, fun acc => ⟨fun K hK => ?_, fun _ K hK => hK⟩⟩
              have hd2 : d = a.d ∨ d = b.d := by simpa using hd
              rcases hd2 with rfl | rfl
              · exact ⟨nle, ne_nil a (by rw [← notNil_d]; exact hK)⟩
              · exact ⟨nle, ne_nil b (by rw [← notNil_d]; exact hK)⟩
            · rw [List.nil_append, sides_d]
              have hw4 := get_push hw3 [.lst (dsL (sides a b))]
              have hd4 := get_push hd3 [.lst (dsL (sides a b))]
              have hn4 := last_get S3 (.lst (dsL (sides a b)))
              have hx4 := hx3.trans (Ext.push S3 (.lst (dsL (sides a b))))
              have hnod : nodesL us + (a.nodes + b.nodes + 1) ≤ f := by
                have e : nodesL (us ++ [SH.node r k row a b]) = nodesL us + (a.nodes + b.nodes + 1) := by simp [nodesL, SH.nodes]
                rw [e] at hf
                exact hf
              have husl : us.length ≤ nodesL us := by
                have hu2 : ∀ t ∈ us, t.isNil = false := fun t ht => htn t (List.mem_append_left _ ht)
                clear hnod hf hlen2 hus hin hlen hit hw hw1 hw2 hw3 hw4 e1 e2 htn
                induction us with
                | nil => exact Nat.le_refl _
                | cons t us ih =>
                  have h1 := nodes_pos (hu2 t List.mem_cons_self)
                  have h2 := ih fun t ht => hu2 t (List.mem_cons_of_mem _ ht)
                  have e : nodesL (t :: us) = t.nodes + nodesL us := by simp [nodesL]
                  rw [e, List.length_cons]
                  omega
              have hsid : sides a b = [a, b].filter fun t => !t.isNil := rfl
              have hsl : (sides a b).length ≤ 2 := by
                rw [hsid]
                exact List.length_filter_le _ [a, b]
              have hsn : nodesL (sides a b) = a.nodes + b.nodes := by
                rw [hsid]
                cases ea : a.isNil <;> cases eb : b.isNil <;> simp [List.filter_cons, ea, eb, nodesL]
                · cases b <;> first | rfl | cases eb
                · cases a <;> first | rfl | cases ea
                · cases a <;> cases b <;> first | rfl | (cases ea; done) | cases eb
              have hsi : itemsL (sides a b) = a.items ++ b.items := by
                rw [hsid]
                cases ea : a.isNil <;> cases eb : b.isNil <;> simp [List.filter_cons, ea, eb, itemsL]
                · cases b <;> first | rfl | cases eb
                · cases a <;> first | rfl | cases ea
                · cases a <;> cases b <;> first | exact ⟨rfl, rfl⟩ | (cases ea; done) | cases eb
              refine iadd_go hw4 hn4 ?_ ?_
              · show (dsL us).length + (dsL (sides a b)).length ≤ 1000000
                unfold dsL
                rw [List.length_map, List.length_map]
                omega
              · refine ⟨f - 1, ?_, us ++ sides a b, kvs3, _, _, _, _, _, _, _, rfl, hx4.set (by omega) _, get_set_ne hd4 (by omega), ?_, ?_, ?_, ?_, ?_, hk3, ?_⟩
                · omega
                · rw [get_set hw4]
                  simp [dsL]
                · have e : nodesL (us ++ sides a b) = nodesL us + nodesL (sides a b) := by simp [nodesL]
                  rw [e, hsn]
                  omega
                · omega
                · intro t ht
                  rcases List.mem_append.mp ht with ht | ht
                  · exact htn t (List.mem_append_left _ ht)
                  · rw [hsid] at ht
                    simpa using (List.mem_filter.mp ht).2
                · intro i hi
                  have e : itemsL (us ++ sides a b) = itemsL us ++ itemsL (sides a b) := by simp [itemsL]
                  rw [e, hsi] at hi
                  rcases List.mem_append.mp hi with hi | hi
                  · exact hus i hi
                  · exact hin i (List.mem_append_right _ hi)
                · have e : itemsL (us ++ sides a b) = itemsL us ++ itemsL (sides a b) := by simp [itemsL]
                  rw [e, hsi]
                  simp
                  omega
          exact aug
        · rintro j d hj ρ S3 ⟨kvs3, y8, y9, rfl, hx3, hd3, hw3, hk3, hl3, _⟩
          rw [List.getElem?_map] at hj
          cases ej : row[j]? with
          | none => rw [ej] at hj; cases hj
          | some i =>
            rw [ej] at hj
            cases hj
            refine ⟨_, rfl, ?_⟩
            have hjl := (List.getElem?_eq_some_iff.mp ej).1
            refine ⟨nle, ?_⟩
            refine setD_go (k := .inl i.2) hd3 ?_ ?_
            · show kvs3.length < 1000000
              omega
            · refine ⟨_, _, _, rfl, hx3.set (Nat.le_refl _) _, get_set hd3, get_set_ne hw3 (by omega), hk3.put (hin i (List.mem_append_left _ (List.mem_of_getElem? ej))), ?_, hjl⟩
              have := dPut_len kvs3 (.inl i.2) (.tup [itD i, .int k])
              omega
  · refine ⟨l, [], none, none, none, none, none, none, none, ?_, ?_, ?_, ?_, Nat.le_refl _, hc, hne, fun i hi => hi, ?_, ?_⟩
    · show [some _, some (D.ref S.length), some (D.ref (S ++ [Ob.dct []]).length), none, none, none, none, none, none, none] = _
      rw [List.length_append]
      rfl
    · exact (Ext.push S _).trans (Ext.push _ _)
    · exact get_push (last_get S _) _
    · have := last_get (S ++ [.dct []]) (.lst (dsL l))
      simpa using this
    · intro p hp
      cases hp
    · simpa using hi
end Mn
namespace Mn
open PySem
def atR (l : List SH) (i : Nat) : List SH := l.filter fun t => decide (t.rank = (i : Int))
def rowAt (one other : List SH) (i : Nat) (c : Option SH) : List SH := atR (one ++ other) i ++ c.toList
def jstep (sl : Int) (m : Nat) (one other : List SH) (i : Nat) (st : List SH × Option SH) : List SH × Option SH := match rowAt one other i st.2 with
  | a :: b :: r => (st.1 ++ r, some (fillF sl m (.node ((i : Int) + 1) 0 [] a b)))
  | r => (st.1 ++ r, none)
def jst (sl : Int) (m : Nat) (one other : List SH) : Nat → List SH × Option SH
  | 0 => ([], none)
  | k + 1 => jstep sl m one other k (jst sl m one other k)
def joinS (sl : Int) (m : Nat) (one other : List SH) : List SH := (jst sl m one other 12).1
def SH.full : SH → Prop
  | .nil => True
  | .node _ _ row a b => row ≠ [] ∧ a.full ∧ b.full
structure Tr (t : SH) : Prop where
  ne : t.isNil = false
  rb : t.rb
  full : t.full
  cw : t.cnt ≤ 2 ^ t.rank.toNat
theorem fill_rank {sl : Int} : ∀ (n : Nat) (t : SH), (fillF sl n t).rank = t.rank
  | 0, _ => rfl
  | n + 1, t => by
    unfold fillF
    split
    · rw [fill_rank n]
      rfl
    · rfl
theorem fill_ne {sl : Int} : ∀ (n : Nat) {t : SH}, t.isNil = false → (fillF sl n t).isNil = false
  | 0, _, h => h
  | n + 1, t, h => by
    unfold fillF
    split
    · exact fill_ne n rfl
    · exact h
theorem firstS_full {a b : SH} (ha : a.full) (hb : b.full) : (firstS a b).1.full ∧ (firstS a b).2.full := by
  rcases firstS_cases a b with e | e <;> rw [e] <;> first | exact ⟨ha, hb⟩ | exact ⟨hb, ha⟩
theorem fill_full {sl : Int} : ∀ (n : Nat) (r k : Int) (row : List (Int × Int)) (a b : SH), (SH.node r k row a b).nodes ≤ n → a.full → b.full → (row ≠ [] ∨ (!a.isNil || !b.isNil) = true) → (fillF sl n (.node r k row a b)).full
  | 0, r, k, row, a, b, hn, _, _, _ => by
    have : a.nodes + b.nodes + 1 ≤ 0 := hn
    omega
  | n + 1, r, k, row, a, b, hn, ha, hb, hr => by
    cases hg : goesOn sl (.node r k row a b) with
    | false =>
      rw [fill_stop hg]
      refine ⟨?_, ha, hb⟩
      rcases hr with h | h
      · exact h
      · intro z
        subst z
        have hw := want_pos (r - sl).toNat
        have : goesOn sl (.node r k [] a b) = true := by
          show (decide (((0 : Nat) : Int) < want r sl) && (!a.isNil || !b.isNil)) = true
          rw [h, decide_eq_true (by unfold want; omega)]
          rfl
        rw [this] at hg
        cases hg
    | true =>
      have hk : (!a.isNil || !b.isNil) = true := (Bool.and_eq_true_iff.mp hg).2
      rw [fill_go hg (show firstS a b = ((firstS a b).1, (firstS a b).2) from rfl) n]
      have hf := firstS_full ha hb
      have hne := firstS_ne hk
      have hnod := firstS_nodes a b
      have h1 : a.nodes + b.nodes + 1 ≤ n + 1 := hn
      generalize (firstS a b).1 = A at *
      generalize (firstS a b).2 = B at *
      cases A with
      | nil => cases hne
      | node ra ka rowa aa ba =>
        have hA : aa.nodes + ba.nodes + 1 + B.nodes = a.nodes + b.nodes := hnod
        refine fill_full n r _ _ _ B ?_ ?_ hf.2 (.inl ?_)
        · show (if _ then SH.nil else fillF sl n _).nodes + B.nodes + 1 ≤ n
          split
          · show 0 + B.nodes + 1 ≤ n
            omega
          · rename_i hl
            have := (fill_nodes (sl := sl) n (SH.node ra ka rowa aa ba).emptied (by show aa.nodes + ba.nodes + 1 ≤ n; omega)).2 (emptied_goes (by simpa using hl))
            have e1 : (SH.node ra ka rowa aa ba).emptied.nodes = aa.nodes + ba.nodes + 1 := rfl
            omega
        · split
          · trivial
          · rename_i hl
            refine fill_full n ra ka [] aa ba (by show aa.nodes + ba.nodes + 1 ≤ n; omega) hf.1.2.1 hf.1.2.2 (.inr ?_)
            have : (SH.node ra ka rowa aa ba).leaf = false := by simpa using hl
            rw [leaf_iff] at this
            cases haa : aa.isNil <;> cases hba : ba.isNil <;> simp [SH.one, SH.other, haa, hba] at this ⊢
        · intro z
          have := (List.append_eq_nil_iff.mp z).2
          exact hf.1.1 this
end Mn
namespace Mn
open PySem
theorem fill_items {sl : Int} : ∀ (n : Nat) (t : SH) (i : Int × Int), i ∈ (fillF sl n t).items → i ∈ t.items
  | 0, _, _, h => h
  | n + 1, t, i, h => by
    unfold fillF at h
    split at h
    · rename_i hg
      cases t with
      | nil => cases hg
      | node r k row a b =>
        have h2 := fill_items n _ i h
        have hf : ∀ j, j ∈ (firstS a b).1.items ∨ j ∈ (firstS a b).2.items → j ∈ a.items ++ b.items := fun j hj => by
          rcases firstS_cases a b with e | e <;> rw [e] at hj <;> simp at hj ⊢ <;> rcases hj with hj | hj <;> first | exact .inl hj | exact .inr hj
        have h3 : i ∈ (row ++ (firstS a b).1.row) ++ ((if (firstS a b).1.leaf = true then SH.nil else fillF sl n (firstS a b).1.emptied).items ++ (firstS a b).2.items) := h2
        show i ∈ row ++ (a.items ++ b.items)
        have hsub : ∀ j, j ∈ (firstS a b).1.row → j ∈ (firstS a b).1.items := fun j hj => by
          generalize (firstS a b).1 = A at *
          cases A with
          | nil => cases hj
          | node _ _ _ _ _ => exact List.mem_append_left _ hj
        have hemp : ∀ j, j ∈ (firstS a b).1.emptied.items → j ∈ (firstS a b).1.items := fun j hj => by
          generalize (firstS a b).1 = A at *
          cases A with
          | nil => cases hj
          | node _ _ _ _ _ => exact List.mem_append_right _ hj
        rcases List.mem_append.mp h3 with h4 | h4
        · rcases List.mem_append.mp h4 with h5 | h5
          · exact List.mem_append_left _ h5
          · exact List.mem_append_right _ (hf i (.inl (hsub i h5)))
        · rcases List.mem_append.mp h4 with h5 | h5
          · split at h5
            · cases h5
            · exact List.mem_append_right _ (hf i (.inl (hemp i (fill_items n _ i h5))))
          · exact List.mem_append_right _ (hf i (.inr h5))
    · exact h
theorem tie_tr {sl : Int} {m : Nat} {a b : SH} {i : Nat} (ha : Tr a) (hb : Tr b) (ra : a.rank = (i : Int)) (rb : b.rank = (i : Int)) (hi : i ≤ 400) (hn : a.nodes + b.nodes + 1 ≤ m) :
    Tr (fillF sl m (.node ((i : Int) + 1) 0 [] a b)) ∧ (fillF sl m (.node ((i : Int) + 1) 0 [] a b)).rank = (i : Int) + 1 ∧ (fillF sl m (.node ((i : Int) + 1) 0 [] a b)).nodes ≤ a.nodes + b.nodes ∧ (fillF sl m (.node ((i : Int) + 1) 0 [] a b)).cnt = a.cnt + b.cnt := by
  have hk : (!a.isNil || !b.isNil) = true := by rw [ha.ne]; rfl
  have hw := want_pos ((i : Int) + 1 - sl).toNat
  have hg : goesOn sl (.node ((i : Int) + 1) 0 [] a b) = true := by
    show (decide (((0 : Nat) : Int) < want _ sl) && (!a.isNil || !b.isNil)) = true
    rw [hk, decide_eq_true (by unfold want; omega)]
    rfl
  refine ⟨⟨fill_ne m rfl, fill_rb m ⟨by omega, by omega, ha.rb, hb.rb⟩, fill_full m _ _ _ _ _ hn ha.full hb.full (.inr hk), ?_⟩, fill_rank m _, ?_, ?_⟩
  · have h1 := ha.cw
    have h2 := hb.cw
    rw [ra, Int.toNat_natCast] at h1
    rw [rb, Int.toNat_natCast] at h2
    rw [fill_cnt, fill_rank]
    show 0 + a.cnt + b.cnt ≤ 2 ^ ((i : Int) + 1).toNat
    rw [show ((i : Int) + 1).toNat = i + 1 by omega, Nat.pow_succ]
    omega
  · have := (fill_nodes (sl := sl) m (.node ((i : Int) + 1) 0 [] a b) hn).2 hg
    have e : (SH.node ((i : Int) + 1) 0 [] a b).nodes = a.nodes + b.nodes + 1 := rfl
    omega
  · rw [fill_cnt]
    show 0 + a.cnt + b.cnt = _
    omega
end Mn
namespace Mn
open PySem
def sumF (f : SH → Nat) (l : List SH) : Nat := (l.map f).sum
theorem sumF_app (f : SH → Nat) (l m : List SH) : sumF f (l ++ m) = sumF f l + sumF f m := by simp [sumF]
theorem sumF_nil (f : SH → Nat) : sumF f [] = 0 := rfl
theorem sumF_cons (f : SH → Nat) (t : SH) (l : List SH) : sumF f (t :: l) = f t + sumF f l := by simp [sumF]
def fromR (l : List SH) (i : Nat) : List SH := l.filter fun t => decide ((i : Int) ≤ t.rank)
theorem sum_from (f : SH → Nat) (l : List SH) (i : Nat) : sumF f (fromR l i) = sumF f (atR l i) + sumF f (fromR l (i + 1)) := by
  induction l with
  | nil => rfl
  | cons t l ih =>
    unfold fromR atR at ih ⊢
    rw [List.filter_cons, List.filter_cons, List.filter_cons]
    by_cases h1 : t.rank = (i : Int)
    · rw [if_pos (by simp [h1]), if_pos (by simp [h1]), if_neg (by simp [h1]; omega), sumF_cons, sumF_cons, ih]
      omega
    · by_cases h2 : (i : Int) ≤ t.rank
      · rw [if_pos (by simp [h2]), if_neg (by simp [h1]), if_pos (by simp; omega), sumF_cons, sumF_cons, ih]
        omega
      · rw [if_neg (by simp; omega), if_neg (by simp [h1]), if_neg (by simp; omega), ih]
def optF (f : SH → Nat) : Option SH → Nat
  | none => 0
  | some c => f c
theorem sum_opt (f : SH → Nat) (c : Option SH) : sumF f c.toList = optF f c := by cases c <;> simp [sumF, optF]
theorem jst_sum2 {sl : Int} {m : Nat} {one other : List SH} (f : SH → Nat) (B : Nat) (hf : ∀ i, i ≤ B → ∀ a b, a ∈ rowAt one other i (jst sl m one other i).2 → b ∈ rowAt one other i (jst sl m one other i).2 → f (fillF sl m (.node ((i : Nat) + 1 : Int) 0 [] a b)) ≤ f a + f b) :
    ∀ i, i ≤ B → sumF f (jst sl m one other i).1 + optF f (jst sl m one other i).2 + sumF f (fromR (one ++ other) i) ≤ sumF f (fromR (one ++ other) 0)
  | 0, _ => by
    show sumF f [] + 0 + _ ≤ _
    rw [sumF_nil]
    omega
  | i + 1, hB => by
    have ih := jst_sum2 f B hf i (by omega)
    have hs := sum_from f (one ++ other) i
    have hr : sumF f (rowAt one other i (jst sl m one other i).2) = sumF f (atR (one ++ other) i) + optF f (jst sl m one other i).2 := by
      unfold rowAt
      rw [sumF_app, sum_opt]
    show sumF f (jstep sl m one other i (jst sl m one other i)).1 + optF f (jstep sl m one other i (jst sl m one other i)).2 + _ ≤ _
    unfold jstep
    split
    · rename_i a b r e
      rw [e, sumF_cons, sumF_cons] at hr
      have h3 : f (fillF sl m (.node ((i : Int) + 1) 0 [] a b)) ≤ f a + f b := hf i (by omega) a b (by rw [e]; simp) (by rw [e]; simp)
      rw [sumF_app]
      show sumF f _ + sumF f r + f _ + _ ≤ _
      omega
    · rw [sumF_app]
      show sumF f _ + sumF f (rowAt one other i _) + 0 + _ ≤ _
      omega
theorem full_nodes : ∀ {t : SH}, t.full → t.nodes ≤ t.cnt
  | .nil, _ => Nat.le_refl _
  | .node r k row a b, h => by
    obtain ⟨h1, h2, h3⟩ := h
    have e1 := full_nodes h2
    have e2 := full_nodes h3
    have : 1 ≤ row.length := by
      cases row with
      | nil => exact absurd rfl h1
      | cons _ _ => simp
    show a.nodes + b.nodes + 1 ≤ row.length + a.cnt + b.cnt
    omega
def w2 (t : SH) : Nat := 2 ^ t.rank.toNat
def Fit (m W : Nat) : Prop := ∀ k : Nat, 2 ^ k ≤ W → 2 ^ k + 1 ≤ m
theorem Fit.le {m m' W W' : Nat} (h : Fit m W) (h1 : m ≤ m') (h2 : W' ≤ W) : Fit m' W' := fun k hk => Nat.le_trans (h k (Nat.le_trans hk h2)) h1
theorem fit_of {B W : Nat} (h : W < 2 ^ (B + 1)) : Fit (2 ^ B + 1) W := fun k hk => by
  have h1 : 2 ^ k < 2 ^ (B + 1) := Nat.lt_of_le_of_lt hk h
  have h2 : k < B + 1 := (Nat.pow_lt_pow_iff_right (by decide)).mp h1
  have h3 : 2 ^ k ≤ 2 ^ B := Nat.pow_le_pow_right (by decide) (by omega)
  omega
theorem tr_nodes {t : SH} (h : Tr t) : t.nodes ≤ w2 t := Nat.le_trans (full_nodes h.full) h.cw
end Mn
namespace Mn
open PySem
structure Shp (l : List SH) : Prop where
  tr : ∀ t ∈ l, Tr t
  nd : (l.map SH.rank).Nodup
theorem atR_len {l : List SH} (h : (l.map SH.rank).Nodup) (i : Nat) : (atR l i).length ≤ 1 := by
  induction l with
  | nil => exact Nat.zero_le _
  | cons t l ih =>
    rw [List.map_cons, List.nodup_cons] at h
    unfold atR at ih ⊢
    rw [List.filter_cons]
    split
    · rename_i ht
      have ht2 : t.rank = (i : Int) := by simpa using ht
      have e : l.filter (fun t => decide (t.rank = (i : Int))) = [] := by
        rw [List.filter_eq_nil_iff]
        intro u hu
        simp
        intro z
        exact h.1 (by rw [ht2, ← z]; exact List.mem_map_of_mem hu)
      rw [e]
      exact Nat.le_refl _
    · exact ih h.2
theorem atR_app (l m : List SH) (i : Nat) : atR (l ++ m) i = atR l i ++ atR m i := by unfold atR; rw [List.filter_append]
theorem atR_rank {l : List SH} {i : Nat} {t : SH} (h : t ∈ atR l i) : t ∈ l ∧ t.rank = (i : Int) := by
  have := List.mem_filter.mp h
  exact ⟨this.1, by simpa using this.2⟩
theorem jst_ok {sl : Int} {m : Nat} {one other : List SH} (h1 : Shp one) (h2 : Shp other) (hN : Fit m (sumF w2 (one ++ other))) : ∀ i, i ≤ 400 → (∀ t ∈ (jst sl m one other i).1, Tr t ∧ t.rank < (i : Int)) ∧ ((jst sl m one other i).1.map SH.rank).Nodup ∧ (∀ c, (jst sl m one other i).2 = some c → Tr c ∧ c.rank = (i : Int)) ∧
    sumF w2 (jst sl m one other i).1 + optF w2 (jst sl m one other i).2 + sumF w2 (fromR (one ++ other) i) ≤ sumF w2 (one ++ other)
  | 0, _ => by
    refine ⟨fun t h => (nomatch h), List.nodup_nil, fun c e => (nomatch e), ?_⟩
    show sumF w2 [] + 0 + _ ≤ _
    rw [sumF_nil]
    have : fromR (one ++ other) 0 = one ++ other := by
      unfold fromR
      rw [List.filter_eq_self]
      intro t ht
      have htr : Tr t := by
        rcases List.mem_append.mp ht with h | h
        · exact h1.tr t h
        · exact h2.tr t h
      have := htr.rb
      cases t with
      | nil => cases htr.ne
      | node r k row a b =>
        have h0 : 0 ≤ r := this.1
        show decide (((0 : Nat) : Int) ≤ r) = true
        exact decide_eq_true (by omega)
    rw [this]
    omega
  | i + 1, hi => by
    obtain ⟨ih1, ih2, ih3, ih4⟩ := jst_ok h1 h2 hN i (by omega)
    have hs := sum_from w2 (one ++ other) i
    have hrow : ∀ t ∈ rowAt one other i (jst sl m one other i).2, Tr t ∧ t.rank = (i : Int) := fun t ht => by
      unfold rowAt at ht
      rcases List.mem_append.mp ht with h | h
      · obtain ⟨h3, h4⟩ := atR_rank h
        refine ⟨?_, h4⟩
        rcases List.mem_append.mp h3 with h | h
        · exact h1.tr t h
        · exact h2.tr t h
      · exact ih3 t (by simpa using h)
    have hlen : (rowAt one other i (jst sl m one other i).2).length ≤ 3 := by
      unfold rowAt
      rw [atR_app, List.length_append, List.length_append]
      have a1 := atR_len h1.nd i
      have a2 := atR_len h2.nd i
      have a3 : (jst sl m one other i).2.toList.length ≤ 1 := by cases (jst sl m one other i).2 <;> simp
      omega
    have hr : sumF w2 (rowAt one other i (jst sl m one other i).2) = sumF w2 (atR (one ++ other) i) + optF w2 (jst sl m one other i).2 := by
      unfold rowAt
      rw [sumF_app, sum_opt]
    have app : ∀ r : List SH, (∀ t ∈ r, Tr t ∧ t.rank = (i : Int)) → r.length ≤ 1 → (∀ t ∈ (jst sl m one other i).1 ++ r, Tr t ∧ t.rank < ((i + 1 : Nat) : Int)) ∧ (((jst sl m one other i).1 ++ r).map SH.rank).Nodup := fun r hr hl => by
      refine ⟨fun t ht => ?_, ?_⟩
      · rcases List.mem_append.mp ht with h | h
        · have := ih1 t h
          exact ⟨this.1, by have := this.2; omega⟩
        · have := hr t h
          exact ⟨this.1, by have := this.2; omega⟩
      · rw [List.map_append, List.nodup_append]
        refine ⟨ih2, ?_, ?_⟩
        · match r, hl with
          | [], _ => exact List.nodup_nil
          | [t], _ => simp
        · intro x hx y hy e
          obtain ⟨t, ht, rfl⟩ := List.mem_map.mp hx
          obtain ⟨u, hu, rfl⟩ := List.mem_map.mp hy
          have a1 := (ih1 t ht).2
          have a2 := (hr u hu).2
          omega
    show _ ∧ _ ∧ _ ∧ _
    rw [show jst sl m one other (i + 1) = jstep sl m one other i (jst sl m one other i) from rfl]
    unfold jstep
    split
    · rename_i a b r e
      rw [e] at hrow hlen hr
      have ha := hrow a (by simp)
      have hb := hrow b (by simp)
      rw [sumF_cons, sumF_cons] at hr
      obtain ⟨p1, p2⟩ := app r (fun t ht => hrow t (by simp [ht])) (by simp at hlen; omega)
      have wa : w2 a = 2 ^ i := by unfold w2; rw [ha.2, Int.toNat_natCast]
      have wb : w2 b = 2 ^ i := by unfold w2; rw [hb.2, Int.toNat_natCast]
      have pw : 2 ^ (i + 1) = 2 ^ i + 2 ^ i := by rw [Nat.pow_succ]; omega
      have room := hN (i + 1) (by omega)
      have na := tr_nodes ha.1
      have nb := tr_nodes hb.1
      obtain ⟨q1, q2, q3, q4⟩ := tie_tr (sl := sl) (m := m) ha.1 hb.1 ha.2 hb.2 (i := i) (by omega) (by omega)
      refine ⟨p1, p2, fun c ec => ?_, ?_⟩
      · cases ec
        refine ⟨q1, ?_⟩
        rw [q2]
        omega
      · rw [sumF_app]
        have wf : w2 (fillF sl m (.node ((i : Int) + 1) 0 [] a b)) = 2 ^ (i + 1) := by
          unfold w2
          rw [q2, show ((i : Int) + 1).toNat = i + 1 by omega]
        show sumF w2 _ + sumF w2 r + w2 (fillF sl m (.node ((i : Int) + 1) 0 [] a b)) + _ ≤ _
        omega
    · rename_i hne
      have hl1 : (rowAt one other i (jst sl m one other i).2).length ≤ 1 := by
        match hh : rowAt one other i (jst sl m one other i).2 with
        | [] => simp
        | [_] => simp
        | a :: b :: r => exact absurd hh (hne a b r)
      obtain ⟨p1, p2⟩ := app _ hrow hl1
      refine ⟨p1, p2, fun c ec => (nomatch ec), ?_⟩
      rw [sumF_app]
      show sumF w2 _ + sumF w2 (rowAt one other i _) + 0 + _ ≤ _
      omega
end Mn
namespace Mn
open PySem
def rankK : D → Key
  | .tup (.int r :: _) => .inl r
  | _ => .inl 0
theorem rankK_d (t : SH) : rankK t.d = .inl t.rank := by cases t <;> rfl
theorem dPut_new {kvs : List (Key × D)} {k : Key} {v : D} (h : ∀ p ∈ kvs, p.1 ≠ k) : dPut kvs k v = kvs ++ [(k, v)] := by
  unfold dPut
  rw [if_neg]
  intro z
  obtain ⟨p, hp, e⟩ := List.any_eq_true.mp z
  exact h p hp (of_decide_eq_true e)
theorem foldl_dput : ∀ (l : List SH) (acc : List (Key × D)), (l.map SH.rank).Nodup → (∀ t ∈ l, ∀ p ∈ acc, p.1 ≠ .inl t.rank) →
    (dsL l).foldl (fun a d => dPut a (rankK d) (id d)) acc = acc ++ l.map fun t => (.inl t.rank, t.d)
  | [], acc, _, _ => by simp [dsL]
  | t :: l, acc, hn, hd => by
    rw [List.map_cons, List.nodup_cons] at hn
    show (dsL l).foldl _ (dPut acc (rankK t.d) t.d) = _
    rw [rankK_d, dPut_new (hd t List.mem_cons_self), foldl_dput l _ hn.2]
    · simp
    · intro u hu p hp
      rcases List.mem_append.mp hp with hp | hp
      · exact hd u (List.mem_cons_of_mem _ hu) p hp
      · rw [List.mem_singleton.mp hp]
        intro z
        have : t.rank = u.rank := by simpa using z
        exact hn.1 (by rw [this]; exact List.mem_map_of_mem hu)
def rankD (l : List SH) : List (Key × D) := l.map fun t => (.inl t.rank, t.d)
theorem rankD_get (l : List SH) (i : Int) : dGet (rankD l) (.inl i) = (l.find? fun t => decide (t.rank = i)).map SH.d := by
  unfold dGet rankD
  induction l with
  | nil => rfl
  | cons t l ih =>
    rw [List.map_cons, List.find?_cons, List.find?_cons]
    by_cases h : t.rank = i
    · simp [h]
    · have e1 : decide ((Sum.inl t.rank : Key) = .inl i) = false := by simp [h]
      have e2 : decide (t.rank = i) = false := by simp [h]
      rw [e2]
      dsimp only
      rw [e1]
      exact ih
theorem atR_find {l : List SH} (h : (l.map SH.rank).Nodup) (i : Nat) : atR l i = (l.find? fun t => decide (t.rank = (i : Int))).toList := by
  have h1 := atR_len h i
  rw [← List.head?_filter]
  show atR l i = (atR l i).head?.toList
  match hh : atR l i, h1 with
  | [], _ => rfl
  | [t], _ => rfl
  | a :: b :: r, h1 => simp at h1
def optD : Option SH → D
  | none => .non
  | some t => t.d
def isSm : D → Bool
  | .non => false
  | _ => true
theorem opt_row (x y z : Option SH) : ([optD x, optD y, optD z].filter isSm).map id = dsL (x.toList ++ y.toList ++ z.toList) := by
  cases x <;> cases y <;> cases z <;> rfl
theorem row_eq {one other : List SH} (h1 : (one.map SH.rank).Nodup) (h2 : (other.map SH.rank).Nodup) (i : Nat) (c : Option SH) :
    rowAt one other i c = (one.find? fun t => decide (t.rank = (i : Int))).toList ++ (other.find? fun t => decide (t.rank = (i : Int))).toList ++ c.toList := by
  unfold rowAt
  rw [atR_app, atR_find h1, atR_find h2]
theorem sumF_le {f g : SH → Nat} {l : List SH} (h : ∀ t ∈ l, f t ≤ g t) : sumF f l ≤ sumF g l := by
  induction l with
  | nil => exact Nat.le_refl _
  | cons t l ih =>
    rw [sumF_cons, sumF_cons]
    have := h t List.mem_cons_self
    have := ih fun t ht => h t (List.mem_cons_of_mem _ ht)
    omega
theorem shp_nodes {l : List SH} (h : Shp l) : sumF SH.nodes l ≤ sumF SH.cnt l := sumF_le (f := SH.nodes) (g := SH.cnt) fun t ht => full_nodes (h.tr t ht).full
theorem from0 {l : List SH} (h : ∀ t ∈ l, Tr t) : fromR l 0 = l := by
  unfold fromR
  rw [List.filter_eq_self]
  intro t ht
  have htr := h t ht
  have := htr.rb
  cases t with
  | nil => cases htr.ne
  | node r k row a b =>
    have h0 : 0 ≤ r := this.1
    show decide (((0 : Nat) : Int) ≤ r) = true
    exact decide_eq_true (by omega)
theorem app_tr {one other : List SH} (h1 : Shp one) (h2 : Shp other) : ∀ t ∈ one ++ other, Tr t := fun t ht => by
  rcases List.mem_append.mp ht with h | h
  · exact h1.tr t h
  · exact h2.tr t h
theorem row_tr {sl : Int} {m : Nat} {one other : List SH} (h1 : Shp one) (h2 : Shp other) (hN : Fit m (sumF w2 (one ++ other))) (i : Nat) (hi : i ≤ 400) : ∀ t ∈ rowAt one other i (jst sl m one other i).2, Tr t ∧ t.rank = (i : Int) := fun t ht => by
  obtain ⟨ih1, ih2, ih3, ih4⟩ := jst_ok (sl := sl) h1 h2 hN i hi
  unfold rowAt at ht
  rcases List.mem_append.mp ht with h | h
  · obtain ⟨h3, h4⟩ := atR_rank h
    exact ⟨app_tr h1 h2 t h3, h4⟩
  · exact ih3 t (by simpa using h)
theorem row_sum (f : SH → Nat) (one other : List SH) (i : Nat) (c : Option SH) : sumF f (rowAt one other i c) = sumF f (atR (one ++ other) i) + optF f c := by
  unfold rowAt
  rw [sumF_app, sum_opt]
theorem jst_w {sl : Int} {m : Nat} {one other : List SH} (h1 : Shp one) (h2 : Shp other) (hN : Fit m (sumF w2 (one ++ other))) (i : Nat) (hi : i ≤ 400) :
    sumF w2 (jst sl m one other i).1 + optF w2 (jst sl m one other i).2 + sumF w2 (fromR (one ++ other) i) ≤ sumF w2 (one ++ other) := (jst_ok (sl := sl) h1 h2 hN i hi).2.2.2
theorem row_fit {sl : Int} {m : Nat} {one other : List SH} (h1 : Shp one) (h2 : Shp other) (hN : Fit m (sumF w2 (one ++ other))) (i : Nat) (hi : i ≤ 400) {a b : SH} {r : List SH} (e : rowAt one other i (jst sl m one other i).2 = a :: b :: r) : a.nodes + b.nodes + 1 ≤ m := by
  have jw := jst_w (sl := sl) h1 h2 hN i hi
  have hs := sum_from w2 (one ++ other) i
  have hr := row_sum w2 one other i (jst sl m one other i).2
  rw [e, sumF_cons, sumF_cons] at hr
  have ha := row_tr (sl := sl) h1 h2 hN i hi a (by rw [e]; simp)
  have hb := row_tr (sl := sl) h1 h2 hN i hi b (by rw [e]; simp)
  have wa : w2 a = 2 ^ i := by unfold w2; rw [ha.2, Int.toNat_natCast]
  have wb : w2 b = 2 ^ i := by unfold w2; rw [hb.2, Int.toNat_natCast]
  have pw : 2 ^ (i + 1) = 2 ^ i + 2 ^ i := by rw [Nat.pow_succ]; omega
  have room := hN (i + 1) (by omega)
  have na := tr_nodes ha.1
  have nb := tr_nodes hb.1
  omega
theorem jst_c {sl : Int} {m : Nat} {one other : List SH} (h1 : Shp one) (h2 : Shp other) (i : Nat) (hi : i ≤ 400) :
    sumF SH.cnt (jst sl m one other i).1 + optF SH.cnt (jst sl m one other i).2 + sumF SH.cnt (fromR (one ++ other) i) ≤ sumF SH.cnt (one ++ other) := by
  have := jst_sum2 (sl := sl) (m := m) (one := one) (other := other) SH.cnt 400 (fun i hi a b ha hb => ?_) i hi
  · rw [from0 (app_tr h1 h2)] at this
    exact this
  · rw [fill_cnt]
    show 0 + a.cnt + b.cnt ≤ _
    omega
theorem dis_none {kvs : List (Key × D)} {one : List (Int × Int)} {t : Int} (h : KeysIn kvs one) (hd : ∀ i ∈ one, i.2 ≠ t) : dGet kvs (.inl t) = none := by
  unfold dGet
  have : kvs.find? (fun kv => decide (kv.1 = .inl t)) = none := by
    rw [List.find?_eq_none]
    intro p hp z
    obtain ⟨i, hi, e⟩ := h p hp
    rw [e] at z
    have z2 := of_decide_eq_true z
    exact hd i hi (by simpa using z2)
  rw [this]
  rfl
theorem bls_false {α : Type} (l : List α) : bls? (l.map fun _ => D.bl false) = some (l.map fun _ => false) := by
  induction l with
  | nil => rfl
  | cons a l ih =>
    show (bls? (l.map fun _ => D.bl false)).map (false :: ·) = _
    rw [ih]
    rfl
theorem ranks_l (one other : List SH) : ((rankD one).map fun kv => keyD kv.1) ++ ((rankD other).map fun kv => keyD kv.1) = ((one ++ other).map SH.rank).map D.int := by
  unfold rankD
  simp [keyD, Function.comp_def]
theorem seq_dct {S : Store} {n : Nat} {kvs : List (Key × D)} (h : S[n]? = some (.dct kvs)) : seq? S (.ref n) = none := by
  show lst? S n = none
  unfold lst?
  rw [h]
theorem dsL_len (l : List SH) : (dsL l).length = l.length := List.length_map ..
theorem len_nodes {l : List SH} (h : ∀ t ∈ l, t.isNil = false) : l.length ≤ sumF SH.nodes l := by
  induction l with
  | nil => exact Nat.le_refl _
  | cons t l ih =>
    have h1 := nodes_pos (h t List.mem_cons_self)
    have h2 := ih fun t ht => h t (List.mem_cons_of_mem _ ht)
    rw [sumF_cons, List.length_cons]
    omega
theorem items_len : ∀ t : SH, t.items.length = t.cnt
  | .nil => rfl
  | .node r k row a b => by
    show (row ++ (a.items ++ b.items)).length = row.length + a.cnt + b.cnt
    rw [List.length_append, List.length_append, items_len a, items_len b]
    omega
theorem itemsL_len (l : List SH) : (itemsL l).length = sumF SH.cnt l := by
  induction l with
  | nil => rfl
  | cons t l ih =>
    show (t.items ++ itemsL l).length = _
    rw [List.length_append, sumF_cons, items_len, ih]
theorem opt_get (x : Option SH) : (x.map SH.d).getD .non = optD x := by cases x <;> rfl
theorem mem_sum (f : SH → Nat) {l : List SH} {t : SH} (h : t ∈ l) : f t ≤ sumF f l := by
  induction l with
  | nil => cases h
  | cons u l ih =>
    rw [sumF_cons]
    rcases List.mem_cons.mp h with rfl | h
    · omega
    · have := ih h
      omega
end Mn
namespace Mn
open PySem
def minKey : List SH → Int
  | [] => 0
  | t :: r => minI t.key (r.map SH.key)
def minAt (l : List SH) : Nat := l.findIdx fun t => t.key == minKey l
def leftS (sl : Int) (m : Nat) : SH → List SH
  | .nil => []
  | .node r k row a b => if 2 * ((row.drop 1).length : Int) ≤ want r sl then
      (if (a.isNil && b.isNil) = true then (if (row.drop 1).isEmpty = true then [] else [.node r k (row.drop 1) a b]) else [fillF sl m (.node r k (row.drop 1) a b)])
    else [.node r k (row.drop 1) a b]
def takeS (sl : Int) (m : Nat) (l : List SH) : (Int × Int) × List SH := match l[minAt l]? with
  | some t => (t.row.headD (0, 0), l.take (minAt l) ++ leftS sl m t ++ l.drop (minAt l + 1))
  | none => ((0, 0), l)
theorem minKey_mem {l : List SH} (h : l ≠ []) : ∃ t ∈ l, t.key = minKey l := by
  cases l with
  | nil => exact absurd rfl h
  | cons t r =>
    obtain ⟨h1, _, _⟩ := minI_spec (r.map SH.key) t.key
    rcases h1 with e | e
    · exact ⟨t, by simp, e.symm⟩
    · obtain ⟨u, hu, e2⟩ := List.mem_map.mp e
      exact ⟨u, by simp [hu], e2⟩
theorem minAt_get {l : List SH} (h : l ≠ []) : ∃ t, l[minAt l]? = some t ∧ t.key = minKey l := by
  obtain ⟨t, ht, e⟩ := minKey_mem h
  have hlt : minAt l < l.length := List.findIdx_lt_length_of_exists ⟨t, ht, by simp [e]⟩
  refine ⟨l[minAt l], List.getElem?_eq_getElem hlt, ?_⟩
  have := List.findIdx_getElem (xs := l) (p := fun t : SH => t.key == minKey l) (w := hlt)
  exact of_decide_eq_true this
theorem idx_int (x : Int) (ks : List Int) (h : x ∈ ks) : idx? (.int x) (ks.map D.int) = some (ks.findIdx (· == x)) := by
  induction ks with
  | nil => cases h
  | cons k ks ih =>
    show (if D.sEq (.int k) (.int x) = true then some 0 else (idx? (.int x) (ks.map D.int)).map (· + 1)) = _
    rw [List.findIdx_cons]
    by_cases e : k = x
    · have : D.sEq (.int k) (.int x) = true := by simp [D.sEq, e]
      rw [if_pos this]
      simp [e]
    · have h2 : ¬ D.sEq (.int k) (.int x) = true := by simp [D.sEq, e]
      rw [if_neg h2, ih (by simpa [Ne.symm e] using h)]
      have : (k == x) = false := by simp [e]
      rw [this]
      rfl
def keyD1 : D → D
  | .tup (_ :: .int k :: _) => .int k
  | _ => .non
theorem key_map {l : List SH} (hne : ∀ t ∈ l, t.isNil = false) : (dsL l).map keyD1 = (l.map SH.key).map D.int := by
  unfold dsL
  rw [List.map_map, List.map_map]
  refine List.map_congr_left fun t ht => ?_
  cases t with
  | nil => cases hne _ ht
  | node _ _ _ _ _ => rfl
theorem min_keys {l : List SH} (h : l ≠ []) : ∃ d r, (l.map SH.key).map D.int = d :: r ∧ minL d r = .int (minKey l) := by
  cases l with
  | nil => exact absurd rfl h
  | cons t l => exact ⟨_, _, rfl, minL_int _ _⟩
theorem index_go {S : Store} {n : Nat} {ks : List Int} {x : Int} {Q : DK} (h : S[n]? = some (.lst (ks.map D.int))) (hx : x ∈ ks) (q : Q (.int (ks.findIdx (· == x) : Nat)) S) : bm .index (.ref n) [.int x] S Q := by
  show mIndex (.ref n) [.int x] S Q
  unfold mIndex
  dsimp only
  rw [lq_of h]
  dsimp only
  rw [idx_int x ks hx]
  refine ⟨rfl, ?_, q⟩
  rw [List.all_eq_true]
  intro d hd
  obtain ⟨a, _, rfl⟩ := List.mem_map.mp hd
  rfl
end Mn
namespace Mn
open PySem
theorem join_shp {sl : Int} {m : Nat} {one other : List SH} (h1 : Shp one) (h2 : Shp other) (hN : Fit m (sumF w2 (one ++ other))) : Shp (joinS sl m one other) ∧ sumF w2 (joinS sl m one other) ≤ sumF w2 (one ++ other) ∧ sumF SH.cnt (joinS sl m one other) ≤ sumF SH.cnt (one ++ other) := by
  obtain ⟨a, b, c, d⟩ := jst_ok (sl := sl) h1 h2 hN 12 (by omega)
  have e1 := jst_w (sl := sl) h1 h2 hN 12 (by omega)
  have e2 := jst_c (sl := sl) (m := m) h1 h2 12 (by omega)
  refine ⟨⟨fun t ht => (a t ht).1, b⟩, ?_, ?_⟩
  · show sumF w2 (jst sl m one other 12).1 ≤ _
    omega
  · show sumF SH.cnt (jst sl m one other 12).1 ≤ _
    omega
theorem itemsL_app (l m : List SH) : itemsL (l ++ m) = itemsL l ++ itemsL m := by unfold itemsL; rw [List.flatMap_append]
theorem mem_itemsL {l : List SH} {i : Int × Int} : i ∈ itemsL l ↔ ∃ t ∈ l, i ∈ t.items := by unfold itemsL; rw [List.mem_flatMap]
theorem jst_items {sl : Int} {m : Nat} {one other : List SH} : ∀ k : Nat, (∀ i ∈ itemsL (jst sl m one other k).1, i ∈ itemsL (one ++ other)) ∧ ∀ c, (jst sl m one other k).2 = some c → ∀ i ∈ c.items, i ∈ itemsL (one ++ other)
  | 0 => ⟨fun i hi => (nomatch hi), fun c e => (nomatch e)⟩
  | k + 1 => by
    obtain ⟨h1, h2⟩ := jst_items k
    have hrow : ∀ t ∈ rowAt one other k (jst sl m one other k).2, ∀ i ∈ t.items, i ∈ itemsL (one ++ other) := fun t ht i hi => by
      unfold rowAt at ht
      rcases List.mem_append.mp ht with h | h
      · exact mem_itemsL.mpr ⟨t, (atR_rank h).1, hi⟩
      · exact h2 t (by simpa using h) i hi
    rw [show jst sl m one other (k + 1) = jstep sl m one other k (jst sl m one other k) from rfl]
    unfold jstep
    split
    · rename_i a b r e
      rw [e] at hrow
      refine ⟨fun i hi => ?_, fun c ec i hi => ?_⟩
      · rw [itemsL_app] at hi
        rcases List.mem_append.mp hi with h | h
        · exact h1 i h
        · obtain ⟨t, ht, hit⟩ := mem_itemsL.mp h
          exact hrow t (by simp [ht]) i hit
      · cases ec
        have := fill_items m _ i hi
        have : i ∈ ([] : List (Int × Int)) ++ (a.items ++ b.items) := this
        rcases List.mem_append.mp (by simpa using this) with h | h
        · exact hrow a (by simp) i h
        · exact hrow b (by simp) i h
    · refine ⟨fun i hi => ?_, fun c ec => (nomatch ec)⟩
      rw [itemsL_app] at hi
      rcases List.mem_append.mp hi with h | h
      · exact h1 i h
      · obtain ⟨t, ht, hit⟩ := mem_itemsL.mp h
        exact hrow t ht i hit
structure Grn (l : List SH) (k : Nat) (lo hi : Int) : Prop where
  shp : Shp l
  w : sumF w2 l ≤ k
  c : sumF SH.cnt l ≤ k
  t : ∀ i ∈ itemsL l, lo ≤ i.2 ∧ i.2 < hi
theorem Grn.nodes {l : List SH} {k : Nat} {lo hi : Int} (g : Grn l k lo hi) : sumF SH.nodes l ≤ k := Nat.le_trans (shp_nodes g.shp) g.c
theorem Grn.nil (lo hi : Int) : Grn [] 0 lo hi := ⟨⟨fun _ h => (nomatch h), List.nodup_nil⟩, Nat.le_refl _, Nat.le_refl _, fun _ h => (nomatch h)⟩
theorem Grn.mono {l : List SH} {k k' : Nat} {lo hi lo' hi' : Int} (g : Grn l k lo hi) (h : k ≤ k') (h1 : lo' ≤ lo) (h2 : hi ≤ hi') : Grn l k' lo' hi' :=
  ⟨g.shp, Nat.le_trans g.w h, Nat.le_trans g.c h, fun i hi => by have := g.t i hi; omega⟩
theorem Grn.join {sl : Int} {m : Nat} {one other : List SH} {k k' : Nat} {lo hi lo' hi' a b : Int} (g : Grn one k lo hi) (g' : Grn other k' lo' hi') (hm : Fit m (k + k')) (h1 : a ≤ lo) (h2 : a ≤ lo') (h3 : hi ≤ b) (h4 : hi' ≤ b) : Grn (joinS sl m one other) (k + k') a b := by
  have n1 := g.nodes
  have n2 := g'.nodes
  obtain ⟨p1, p2, p3⟩ := join_shp (sl := sl) (m := m) g.shp g'.shp (hm.le (Nat.le_refl _) (by have := g.w; have := g'.w; rw [sumF_app]; omega))
  rw [sumF_app] at p2 p3
  have w1 := g.w
  have w2 := g'.w
  have c1 := g.c
  have c2 := g'.c
  refine ⟨p1, by omega, by omega, fun i hi => ?_⟩
  have := (jst_items 12).1 i hi
  rw [itemsL_app] at this
  rcases List.mem_append.mp this with h | h
  · have := g.t i h
    omega
  · have := g'.t i h
    omega
def oneS (i : Int × Int) : List SH := [.node 0 i.1 [i] .nil .nil]
theorem Grn.one (i : Int × Int) : Grn (oneS i) 1 i.2 (i.2 + 1) := by
  refine ⟨⟨fun t ht => ?_, by simp [oneS]⟩, Nat.le_refl _, Nat.le_refl _, fun j hj => ?_⟩
  · rw [List.mem_singleton.mp ht]
    exact ⟨rfl, ⟨by decide, by decide, trivial, trivial⟩, ⟨by simp, trivial, trivial⟩, nle⟩
  · have : j = i := by simpa [itemsL, oneS, SH.items] using hj
    subst this
    omega
theorem take_left {sl : Int} {m : Nat} {t : SH} (h : Tr t) (hN : t.nodes ≤ m) : (leftS sl m t).length ≤ 1 ∧ (∀ u ∈ leftS sl m t, Tr u ∧ u.rank = t.rank ∧ u.cnt ≤ t.cnt ∧ ∀ i ∈ u.items, i ∈ t.items) := by
  cases t with
  | nil => cases h.ne
  | node r k row a b =>
    have hN' : a.nodes + b.nodes + 1 ≤ m := hN
    obtain ⟨h1, h2, h3⟩ := h.full
    have sub : ∀ i ∈ row.drop 1 ++ (a.items ++ b.items), i ∈ row ++ (a.items ++ b.items) := fun i hi => by
      rcases List.mem_append.mp hi with h | h
      · exact List.mem_append_left _ (List.mem_of_mem_drop h)
      · exact List.mem_append_right _ h
    have hl : (row.drop 1).length ≤ row.length := by rw [List.length_drop]; omega
    have same : row.drop 1 ≠ [] → Tr (.node r k (row.drop 1) a b) := fun hr => ⟨rfl, h.rb, ⟨hr, h2, h3⟩, by
      have cw : row.length + a.cnt + b.cnt ≤ 2 ^ r.toNat := h.cw
      show (row.drop 1).length + _ + _ ≤ 2 ^ r.toNat
      omega⟩
    simp only [leftS]
    split
    · split
      · split
        · exact ⟨nle, fun u hu => (nomatch hu)⟩
        · rename_i hne
          refine ⟨nle, fun u hu => ?_⟩
          rw [List.mem_singleton.mp hu]
          exact ⟨same (by simpa using hne), rfl, by show (row.drop 1).length + _ + _ ≤ row.length + _ + _; omega, sub⟩
      · rename_i hab
        refine ⟨nle, fun u hu => ?_⟩
        rw [List.mem_singleton.mp hu]
        refine ⟨⟨fill_ne m rfl, fill_rb m h.rb, fill_full m _ _ _ _ _ hN' h2 h3 (.inr ?_), ?_⟩, fill_rank m _, ?_, fun i hi => sub i (fill_items m _ i hi)⟩
        · cases ha : a.isNil <;> cases hb : b.isNil <;> simp [ha, hb] at hab ⊢
        · have cw : row.length + a.cnt + b.cnt ≤ 2 ^ r.toNat := h.cw
          rw [fill_cnt, fill_rank]
          show (row.drop 1).length + _ + _ ≤ 2 ^ r.toNat
          omega
        · rw [fill_cnt]
          show (row.drop 1).length + _ + _ ≤ row.length + _ + _
          omega
    · rename_i hw
      have hne : row.drop 1 ≠ [] := fun z => by
        rw [z] at hw
        have := want_pos (r - sl).toNat
        unfold want at hw
        simp at hw
        omega
      refine ⟨nle, fun u hu => ?_⟩
      rw [List.mem_singleton.mp hu]
      exact ⟨same hne, rfl, by show (row.drop 1).length + _ + _ ≤ row.length + _ + _; omega, sub⟩
theorem split_at {l : List SH} {j : Nat} {t : SH} (h : l[j]? = some t) : l = l.take j ++ [t] ++ l.drop (j + 1) := by
  have hlt := (List.getElem?_eq_some_iff.mp h).1
  have e := (List.getElem?_eq_some_iff.mp h).2
  conv => lhs; rw [← List.take_append_drop j l, List.drop_eq_getElem_cons hlt, e]
  simp
theorem Grn.take {sl : Int} {m : Nat} {l : List SH} {k : Nat} {lo hi : Int} (g : Grn l k lo hi) (hm : Fit m k) (hne : l ≠ []) : Grn (takeS sl m l).2 k lo hi := by
  obtain ⟨t, gt, _⟩ := minAt_get hne
  have hn := g.nodes
  have htl : t ∈ l := List.mem_of_getElem? gt
  have hnod0 := mem_sum w2 htl
  have hnod1 := hm t.rank.toNat (Nat.le_trans hnod0 g.w)
  have hnod2 := tr_nodes (g.shp.tr t htl)
  have hnod : t.nodes ≤ m := by unfold w2 at hnod2; omega
  obtain ⟨e1, e2⟩ := take_left (sl := sl) (m := m) (g.shp.tr t htl) (by omega)
  have es := split_at gt
  have etk : (takeS sl m l).2 = l.take (minAt l) ++ leftS sl m t ++ l.drop (minAt l + 1) := by
    unfold takeS
    rw [gt]
  rw [etk]
  generalize l.take (minAt l) = A at *
  generalize l.drop (minAt l + 1) = B at *
  generalize leftS sl m t = L at *
  have gw := g.w
  have gc := g.c
  have gt2 := g.t
  have gs := g.shp
  rw [es] at gw gc gt2 gs
  rw [sumF_app, sumF_app, sumF_cons, sumF_nil] at gw gc
  match L, e1 with
  | [], _ =>
    rw [List.append_nil]
    refine ⟨⟨fun u hu => gs.tr u ?_, ?_⟩, ?_, ?_, fun i hi => gt2 i ?_⟩
    · rcases List.mem_append.mp hu with h | h <;> simp [h]
    · have := gs.nd
      simp only [List.map_append, List.append_assoc] at this ⊢
      exact (List.sublist_append_right _ _ |>.append_left _ |>.nodup this)
    · rw [sumF_app]; omega
    · rw [sumF_app]; omega
    · rw [itemsL_app] at hi
      rw [itemsL_app, itemsL_app]
      rcases List.mem_append.mp hi with h | h <;> simp [h]
  | [u], _ =>
    obtain ⟨f1, f2, f3, f4⟩ := e2 u (by simp)
    refine ⟨⟨fun v hv => ?_, ?_⟩, ?_, ?_, fun i hi => ?_⟩
    · rcases List.mem_append.mp hv with h | h
      · rcases List.mem_append.mp h with h | h
        · exact gs.tr v (by simp [h])
        · rw [List.mem_singleton.mp h]; exact f1
      · exact gs.tr v (by simp [h])
    · have := gs.nd
      simp only [List.map_append, List.map_cons, List.map_nil, f2] at this ⊢
      exact this
    · have : w2 u = w2 t := by unfold w2; rw [f2]
      rw [sumF_app, sumF_app, sumF_cons, sumF_nil]
      omega
    · rw [sumF_app, sumF_app, sumF_cons, sumF_nil]
      omega
    · refine gt2 i ?_
      rw [itemsL_app, itemsL_app] at hi ⊢
      rcases List.mem_append.mp hi with h | h
      · rcases List.mem_append.mp h with h | h
        · simp [h]
        · have h2 : i ∈ u.items := by simpa [itemsL] using h
          have h3 : i ∈ itemsL [t] := by simpa [itemsL] using f4 i h2
          simp [h3]
      · simp [h]
end Mn
namespace Mn
open PySem
theorem jst_sumE {sl : Int} {m : Nat} {one other : List SH} (f : SH → Nat) (hf : ∀ i a b, f (fillF sl m (.node ((i : Nat) + 1 : Int) 0 [] a b)) = f a + f b) :
    ∀ i, sumF f (jst sl m one other i).1 + optF f (jst sl m one other i).2 + sumF f (fromR (one ++ other) i) = sumF f (fromR (one ++ other) 0)
  | 0 => by
    show sumF f [] + 0 + _ = _
    rw [sumF_nil]
    omega
  | i + 1 => by
    have ih := jst_sumE (one := one) (other := other) f hf i
    have hs := sum_from f (one ++ other) i
    have hr := row_sum f one other i (jst sl m one other i).2
    show sumF f (jstep sl m one other i (jst sl m one other i)).1 + optF f (jstep sl m one other i (jst sl m one other i)).2 + _ = _
    unfold jstep
    split
    · rename_i a b r e
      rw [e, sumF_cons, sumF_cons] at hr
      have h3 := hf i a b
      rw [sumF_app]
      show sumF f _ + sumF f r + f _ + _ = _
      omega
    · rw [sumF_app]
      show sumF f _ + sumF f (rowAt one other i _) + 0 + _ = _
      omega
theorem source_ok (n : Nat) (c : Int) (S : Store) (Q : DK) (X : XK) (q : Q (.ref S.length) (S ++ [.lst [.int c, .int c, .int 0, .int 0]])) : callZ PP (n + 1) f_law_source [.int c] S Q X := by
  refine enter rfl rfl ?_
  show wpCs _ k_law_source_0 _ [some (.int c)] S
  bv_omega
  exact q
theorem Ext.frs {s : Nat} {S S1 S2 : Store} (a : Fr s S S1) (b : Ext S1 S2) : Fr s S S2 := a.trans (b.fr s)
theorem Src.ext {S S' : Store} {s : Nat} {k : Int} (h : Src S s k) (x : Ext S S') : Src S' s k := by
  obtain ⟨T, rfl⟩ := x
  exact h.push T
end Mn
namespace Mn
open PySem
theorem leaf_items {t : SH} (h : t.leaf = true) : t.items = t.row := by
  cases t with
  | nil => rfl
  | node r k row a b => cases a <;> cases b <;> first | (cases h; done) | simp [SH.items, SH.row]
theorem fill_perm {sl : Int} : ∀ (n : Nat) (t : SH), (fillF sl n t).items.Perm t.items
  | 0, t => .refl _
  | n + 1, t => by
    unfold fillF
    split
    · rename_i hg
      cases t with
      | nil => cases hg
      | node r k row a b =>
        refine (fill_perm n _).trans ?_
        show ((row ++ (firstS a b).1.row) ++ ((if (firstS a b).1.leaf = true then SH.nil else fillF sl n (firstS a b).1.emptied).items ++ (firstS a b).2.items)).Perm (row ++ (a.items ++ b.items))
        have hf : ((firstS a b).1.items ++ (firstS a b).2.items).Perm (a.items ++ b.items) := by
          rcases firstS_cases a b with e | e <;> rw [e]
          exact List.perm_append_comm
        have hA : ((firstS a b).1.row ++ (if (firstS a b).1.leaf = true then SH.nil else fillF sl n (firstS a b).1.emptied).items).Perm (firstS a b).1.items := by
          generalize (firstS a b).1 = A
          split
          · rename_i hl
            rw [leaf_items hl]
            show (A.row ++ []).Perm _
            rw [List.append_nil]
          · refine ((fill_perm n _).append_left _).trans ?_
            cases A <;> exact .refl _
        rw [List.append_assoc]
        refine List.Perm.append_left _ ?_
        rw [← List.append_assoc]
        exact (hA.append_right _).trans hf
    · exact .refl _
theorem join_sumE {sl : Int} {m : Nat} {one other : List SH} (f : SH → Nat) (hf : ∀ i a b, f (fillF sl m (.node ((i : Nat) + 1 : Int) 0 [] a b)) = f a + f b) (h1 : Shp one) (h2 : Shp other) (hN : Fit m (sumF w2 (one ++ other))) (hw : sumF w2 (one ++ other) < 2 ^ 12) : sumF f (joinS sl m one other) = sumF f (one ++ other) := by
  have e := jst_sumE (sl := sl) (m := m) (one := one) (other := other) f hf 12
  rw [from0 (app_tr h1 h2)] at e
  have jw := jst_w (sl := sl) h1 h2 hN 12 (by omega)
  obtain ⟨_, _, j3, _⟩ := jst_ok (sl := sl) h1 h2 hN 12 (by omega)
  have c0 : (jst sl m one other 12).2 = none := by
    cases hc : (jst sl m one other 12).2 with
    | none => rfl
    | some c =>
      obtain ⟨_, rc⟩ := j3 c hc
      rw [hc] at jw
      have : optF w2 (some c) = 2 ^ 12 := by
        show w2 c = _
        unfold w2
        rw [rc]
        rfl
      omega
  have f0 : fromR (one ++ other) 12 = [] := by
    cases hf : fromR (one ++ other) 12 with
    | nil => rfl
    | cons t r =>
      have ht : t ∈ fromR (one ++ other) 12 := by rw [hf]; simp
      unfold fromR at ht
      obtain ⟨h3, h4⟩ := List.mem_filter.mp ht
      have h5 : ((12 : Nat) : Int) ≤ t.rank := of_decide_eq_true h4
      have h6 := mem_sum w2 h3
      have : 2 ^ 12 ≤ w2 t := by
        unfold w2
        exact Nat.pow_le_pow_right (by decide) (by omega)
      omega
  rw [c0, f0, sumF_nil] at e
  show sumF f (jst sl m one other 12).1 = _
  have : optF f none = 0 := rfl
  omega
theorem count_itemsL (x : Int × Int) (l : List SH) : (itemsL l).count x = sumF (fun t => t.items.count x) l := by
  induction l with
  | nil => rfl
  | cons t l ih =>
    rw [sumF_cons, ← ih]
    show (t.items ++ itemsL l).count x = _
    rw [List.count_append]
theorem join_perm {sl : Int} {m : Nat} {one other : List SH} (h1 : Shp one) (h2 : Shp other) (hN : Fit m (sumF w2 (one ++ other))) (hw : sumF w2 (one ++ other) < 2 ^ 12) : (itemsL (joinS sl m one other)).Perm (itemsL (one ++ other)) :=
  List.perm_iff_count.mpr fun x => by
    rw [count_itemsL, count_itemsL]
    refine join_sumE _ (fun i a b => ?_) h1 h2 hN hw
    rw [(fill_perm m _).count_eq]
    show ([] ++ (a.items ++ b.items)).count x = _
    rw [List.nil_append, List.count_append]
theorem left_perm {sl : Int} {m : Nat} {t : SH} (h : Tr t) : (t.row.headD (0, 0) :: itemsL (leftS sl m t)).Perm t.items := by
  cases t with
  | nil => cases h.ne
  | node r k row a b =>
    obtain ⟨h1, _, _⟩ := h.full
    cases row with
    | nil => exact absurd rfl h1
    | cons i rest =>
      have e : ∀ u : SH, u.items.Perm (rest ++ (a.items ++ b.items)) → (i :: itemsL [u]).Perm (i :: (rest ++ (a.items ++ b.items))) := fun u hu => by
        refine List.Perm.cons _ ?_
        show (u.items ++ []).Perm _
        rw [List.append_nil]
        exact hu
      show (i :: itemsL (leftS sl m (.node r k (i :: rest) a b))).Perm (i :: (rest ++ (a.items ++ b.items)))
      simp only [leftS, List.drop_succ_cons, List.drop_zero]
      split
      · split
        · rename_i hab
          split
          · rename_i hr
            cases rest with
            | cons _ _ => cases hr
            | nil =>
              cases a with
              | node _ _ _ _ _ => cases hab
              | nil =>
                cases b with
                | node _ _ _ _ _ => cases hab
                | nil => exact .refl _
          · exact e _ (.refl _)
        · exact e _ (fill_perm m _)
      · exact e _ (.refl _)
theorem take_perm {sl : Int} {m : Nat} {l : List SH} (h : Shp l) (hne : l ≠ []) : ((takeS sl m l).1 :: itemsL (takeS sl m l).2).Perm (itemsL l) := by
  obtain ⟨t, gt, _⟩ := minAt_get hne
  have htl : t ∈ l := List.mem_of_getElem? gt
  have es := split_at gt
  have etk : takeS sl m l = (t.row.headD (0, 0), l.take (minAt l) ++ leftS sl m t ++ l.drop (minAt l + 1)) := by
    unfold takeS
    rw [gt]
  rw [etk]
  have e1 : itemsL [t] = t.items := by show t.items ++ [] = _; rw [List.append_nil]
  have hp := left_perm (sl := sl) (m := m) (h.tr t htl)
  have e2 : itemsL l = itemsL (l.take (minAt l)) ++ (t.items ++ itemsL (l.drop (minAt l + 1))) := by
    conv => lhs; rw [es]
    rw [itemsL_app, itemsL_app, e1, List.append_assoc]
  rw [e2]
  show (t.row.headD (0, 0) :: itemsL (l.take (minAt l) ++ leftS sl m t ++ l.drop (minAt l + 1))).Perm _
  rw [itemsL_app, itemsL_app, List.append_assoc]
  refine (List.perm_middle (l₁ := itemsL (l.take (minAt l)))).symm.trans ?_
  refine List.Perm.append_left _ ?_
  rw [← List.cons_append]
  exact hp.append_right _
end Mn
namespace Mn
open PySem
def SH.prs : SH → List Pr
  | .nil => []
  | .node _ k row a b => row.map (fun i => (i, k)) ++ (a.prs ++ b.prs)
def prsL (l : List SH) : List Pr := l.flatMap SH.prs
theorem prs_items : ∀ t : SH, t.prs.map Prod.fst = t.items
  | .nil => rfl
  | .node r k row a b => by
    show (row.map (fun i => (i, k)) ++ (a.prs ++ b.prs)).map Prod.fst = row ++ (a.items ++ b.items)
    rw [List.map_append, List.map_append, prs_items a, prs_items b, List.map_map]
    congr 1
    exact List.map_id _
theorem prsL_items (l : List SH) : (prsL l).map Prod.fst = itemsL l := by
  induction l with
  | nil => rfl
  | cons t l ih =>
    show (t.prs ++ prsL l).map Prod.fst = t.items ++ itemsL l
    rw [List.map_append, prs_items, ih]
theorem prsL_app (l m : List SH) : prsL (l ++ m) = prsL l ++ prsL m := by unfold prsL; rw [List.flatMap_append]
def dAll (V : List Pr) : List (Key × D) := V.foldl (fun a p => dPut a (.inl p.1.2) (prD p)) []
theorem dAll_app (V : List Pr) (p : Pr) : dAll (V ++ [p]) = dPut (dAll V) (.inl p.1.2) (prD p) := by unfold dAll; rw [List.foldl_append]; rfl
theorem dAll_len (V : List Pr) : (dAll V).length ≤ V.length := by
  rcases List.eq_nil_or_concat V with rfl | ⟨W, p, rfl⟩
  · exact Nat.le_refl _
  · rw [List.concat_eq_append, dAll_app]
    have h1 := dPut_len (dAll W) (.inl p.1.2) (prD p)
    have h2 := dAll_len W
    simp
    omega
termination_by V.length
decreasing_by subst_vars; simp
theorem dAll_nd : ∀ V : List Pr, (V.map fun p => p.1.2).Nodup → dAll V = V.map fun p => (.inl p.1.2, prD p) := by
  intro V
  suffices H : ∀ n (V : List Pr), V.length = n → (V.map fun p => p.1.2).Nodup → dAll V = V.map fun p => (.inl p.1.2, prD p) from H _ V rfl
  intro n
  induction n with
  | zero =>
    intro V h _
    cases V with
    | nil => rfl
    | cons _ _ => cases h
  | succ n ih =>
    intro V h hn
    rcases List.eq_nil_or_concat V with rfl | ⟨W, p, rfl⟩
    · cases h
    · rw [List.concat_eq_append] at *
      rw [List.map_append] at hn
      obtain ⟨h1, _, h3⟩ := List.nodup_append.mp hn
      rw [dAll_app, ih W (by simpa using h) h1, dPut_new, List.map_append]
      · rfl
      · intro q hq
        obtain ⟨x, hx, rfl⟩ := List.mem_map.mp hq
        intro e
        have : x.1.2 = p.1.2 := by injection e
        exact h3 x.1.2 (List.mem_map.mpr ⟨x, hx, rfl⟩) p.1.2 (by simp) this
theorem sides_facts (a b : SH) : nodesL (sides a b) = a.nodes + b.nodes ∧ prsL (sides a b) = a.prs ++ b.prs ∧ (sides a b).length ≤ 2 ∧ ∀ t ∈ sides a b, t.isNil = false := by
  refine ⟨?_, ?_, List.length_filter_le _ [a, b], fun t ht => by simpa using (List.mem_filter.mp ht).2⟩
  · unfold sides
    cases a <;> cases b <;> simp [SH.isNil, nodesL, SH.nodes]
  · unfold sides
    cases a <;> cases b <;> simp [SH.isNil, prsL, SH.prs]
theorem nodesL_len {l : List SH} (h : ∀ t ∈ l, t.isNil = false) : l.length ≤ nodesL l := len_nodes h
theorem nodesL_app (l m : List SH) : nodesL (l ++ m) = nodesL l + nodesL m := by simp [nodesL]
theorem tickets_ok2 (n : Nat) (l : List SH) (S : Store) (Q : DK) (X : XK) (hne : ∀ t ∈ l, t.isNil = false) (hc : nodesL l ≤ 10000) (hi : (itemsL l).length ≤ 10000)
    (h : ∀ V S', Ext S S' → V.Perm (prsL l) → S'[S.length]? = some (.dct (dAll V)) → Q (.ref S.length) S') : callZ PP (n + 1) f_tickets_in [.tup (dsL l)] S Q X := by
  have hpl : (prsL l).length ≤ 10000 := by rw [← List.length_map (f := Prod.fst), prsL_items]; exact hi
  refine enter rfl rfl ?_
  show wpCs _ k_tickets_in_0 _ [some (.tup (dsL l)), none, none, none, none, none, none, none, none, none] S
  bv_omega
  show wpCs _ k_tickets_in_1 _ [some (.tup (dsL l)), some (.ref S.length), none, none, none, none, none, none, none, none] (S ++ [.dct []])
  bv_omega
  have hl1 : (S ++ [Ob.dct []]).length = S.length + 1 := by simp
  rw [hl1]
  bv_omega
  refine whB_at (fun f ρ S' => ∃ (ts : List SH) (V : List Pr) (x3 x4 x5 x6 x7 x8 x9 : Option D), ρ = [some (.tup (dsL l)), some (.ref S.length), some (.ref (S.length + 1)), x3, x4, x5, x6, x7, x8, x9] ∧ Ext S S' ∧ S'[S.length]? = some (.dct (dAll V)) ∧ S'[S.length + 1]? = some (.lst (dsL ts)) ∧ nodesL ts ≤ f ∧ f ≤ 10000 ∧ (∀ t ∈ ts, t.isNil = false) ∧ (V ++ prsL ts).Perm (prsL l)) ?_ (nodesL l)
    ⟨l, [], _, _, _, _, _, _, _, rfl, (Ext.push _ _).trans (Ext.push _ _), get_push (last_get S _) _, by have := last_get (S ++ [Ob.dct []]) (Ob.lst (dsL l)); rwa [hl1] at this, Nat.le_refl _, hc, hne, .refl _⟩
  rintro f ρ S' ⟨ts, V, x3, x4, x5, x6, x7, x8, x9, rfl, hx, hd, hw, hf, hf2, htn, hp⟩ N hN
  ac_rfl
  refine lnil_ne (l := dsL ts) (lst_of (get_push hw _)) (last_lst2 S' []) rfl (nums_snap _ (dsL_num ts)) (nums_lay (dsL_num ts)) ?_
  have hd1 := get_push hd [.lst []]
  have hw1 := get_push hw [.lst []]
  have hx1 : Ext S (S' ++ [.lst []]) := hx.trans (Ext.push _ _)
  generalize S' ++ [.lst []] = S1 at hd1 hw1 hx1
  rcases List.eq_nil_or_concat ts with rfl | ⟨us, t, rfl⟩
  · show wpCs _ k_tickets_in_3 _ _ _
    bv_omega
    exact h V S1 hx1 (by simpa [prsL] using hp) hd1
  · rw [List.concat_eq_append] at *
    have htn1 : t.isNil = false := htn t (by simp)
    cases t with
    | nil => cases htn1
    | node r k row a b =>
      have e2 : dsL (us ++ [SH.node r k row a b]) = dsL us ++ [(SH.node r k row a b).d] := by simp [dsL]
      have e1 : (dsL (us ++ [SH.node r k row a b])).isEmpty = false := by rw [e2]; simp
      rw [e1]
      rw [e2] at hw1
      have hVl : V.length + (row.length + (prsL us).length) ≤ 10000 := by
        have e3 := hp.length_eq
        rw [prsL_app, show prsL [SH.node r k row a b] = row.map (fun i => (i, k)) ++ (a.prs ++ b.prs) by simp [prsL, SH.prs]] at e3
        simp only [List.length_append, List.length_map] at e3
        omega
      have husl : us.length ≤ nodesL us := nodesL_len fun t ht => htn t (List.mem_append_left _ ht)
      have hnod : nodesL us + (a.nodes + b.nodes + 1) ≤ f := by
        rw [nodesL_app] at hf
        have : nodesL [SH.node r k row a b] = a.nodes + b.nodes + 1 := by simp [nodesL, SH.nodes]
        omega
      show wpCs _ k_tickets_in_2a0 _ _ _
      bv_omega
      refine ⟨recv_l hw1, pop_go hw1 ?_⟩
      have hd2 : (S1.set (S.length + 1) (.lst (dsL us)))[S.length]? = some (.dct (dAll V)) := get_set_ne hd1 (by omega)
      have hw2 : (S1.set (S.length + 1) (.lst (dsL us)))[S.length + 1]? = some (.lst (dsL us)) := get_set hw1
      have hx2 : Ext S (S1.set (S.length + 1) (.lst (dsL us))) := hx1.set (by omega) _
      generalize S1.set (S.length + 1) (.lst (dsL us)) = S2 at hd2 hw2 hx2
      show wpCs _ k_tickets_in_2a1 _ [some (.tup (dsL l)), some (.ref S.length), some (.ref (S.length + 1)), some (.int r), some (.int k), some (.tup (row.map itD)), some a.d, some b.d, x8, x9] S2
      bv_omega
      refine forB_at (row.map itD) (fun j ρ S3 => ∃ y8, ρ = [some (.tup (dsL l)), some (.ref S.length), some (.ref (S.length + 1)), some (.int r), some (.int k), some (.tup (row.map itD)), some a.d, some b.d, y8, x9] ∧ Ext S S3 ∧ S3[S.length]? = some (.dct (dAll (V ++ (row.take j).map fun i => (i, k)))) ∧ S3[S.length + 1]? = some (.lst (dsL us))) (fun _ _ _ _ => trivial) ?_ ?_ ⟨_, rfl, hx2, by simpa using hd2, hw2⟩
      · rintro ρ S3 ⟨y8, rfl, hx3, hd3, hw3⟩
        rw [List.length_map, List.take_length] at hd3
        ac_rfl
        bv_omega
        have ec : ∀ t : SH, D.tup t.l = t.d := fun _ => rfl
        refine lcB_map (S1 := S3) notNil id (fun _ => trivial) nle ?_ ?_
        · intro d hd
          refine ⟨_, rfl, fun acc => ⟨fun K hK => ?_, fun _ K hK => hK⟩⟩
          ac_rfl
          have hd2 : d = a.d ∨ d = b.d := by simpa using hd
          rcases hd2 with rfl | rfl
          · exact ne_nil a (by rw [← notNil_d]; exact hK)
          · exact ne_nil b (by rw [← notNil_d]; exact hK)
        · rw [List.nil_append, sides_d]
          obtain ⟨f1, f2, f3, f4⟩ := sides_facts a b
          refine iadd_go (get_push hw3 _) (last_get S3 _) (by rw [dsL_len, dsL_len]; omega) ?_
          refine hN (f - 1) _ _ (by omega) ⟨us ++ sides a b, V ++ row.map fun i => (i, k), _, _, _, _, _, _, _, rfl, (hx3.trans (Ext.push _ _)).set (by omega) _, get_set_ne (get_push hd3 _) (by omega), ?_, ?_, by omega, ?_, ?_⟩
          · rw [get_set (get_push hw3 _)]
            simp [dsL]
          · rw [nodesL_app, f1]
            omega
          · intro t ht
            rcases List.mem_append.mp ht with ht | ht
            · exact htn t (List.mem_append_left _ ht)
            · exact f4 t ht
          · rw [prsL_app, f2]
            refine List.Perm.trans ?_ hp
            rw [prsL_app, show prsL [SH.node r k row a b] = row.map (fun i => (i, k)) ++ (a.prs ++ b.prs) by simp [prsL, SH.prs]]
            generalize row.map (fun i => (i, k)) = R
            rw [List.append_assoc]
            refine List.Perm.append_left _ ?_
            generalize a.prs ++ b.prs = T
            rw [← List.append_assoc, ← List.append_assoc]
            exact List.Perm.append_right _ List.perm_append_comm
      · rintro j d hj ρ S3 ⟨y8, rfl, hx3, hd3, hw3⟩ N3 hN3
        rw [List.getElem?_map] at hj
        cases ej : row[j]? with
        | none => rw [ej] at hj; cases hj
        | some i =>
          rw [ej] at hj
          cases hj
          have hjl := (List.getElem?_eq_some_iff.mp ej).1
          refine ⟨_, rfl, ?_⟩
          show wpCs _ k_tickets_in_2a1a0 _ [some (.tup (dsL l)), some (.ref S.length), some (.ref (S.length + 1)), some (.int r), some (.int k), some (.tup (row.map itD)), some a.d, some b.d, some (.tup [.int i.1, .int i.2]), x9] S3
          bv_omega
          refine setD_go (k := .inl i.2) hd3 ?_ ?_
          · have e4 := dAll_len (V ++ (row.take j).map fun i => (i, k))
            rw [List.length_append, List.length_map, List.length_take] at e4
            omega
          · refine hN3 _ _ ⟨_, rfl, hx3.set (by omega) _, ?_, get_set_ne hw3 (by omega)⟩
            rw [get_set hd3]
            have e : row.take (j + 1) = row.take j ++ [i] := by
              rw [List.take_add_one, ej]
              rfl
            rw [e, List.map_append, ← List.append_assoc]
            exact congrArg (fun z => some (Ob.dct z)) (dAll_app _ (i, k)).symm
end Mn
namespace Mn
open PySem
theorem dGet_map {α : Type} (k : α → Key) (f : α → D) : ∀ (V : List α), (V.map k).Nodup → ∀ p ∈ V, dGet (V.map fun p => (k p, f p)) (k p) = some (f p)
  | [], _, p, hp => (nomatch hp)
  | q :: V, hn, p, hp => by
    rw [List.map_cons] at hn
    obtain ⟨h1, h2⟩ := List.nodup_cons.mp hn
    unfold dGet
    rw [List.map_cons, List.find?_cons]
    rcases List.mem_cons.mp hp with rfl | hp
    · simp
    · have : k q ≠ k p := fun e => h1 (e ▸ List.mem_map.mpr ⟨p, hp, rfl⟩)
      simp only [this, decide_false]
      exact dGet_map k f V h2 p hp
theorem soft_items_ok (n : Nat) (l : List SH) (S : Store) (Q : DK) (X : XK) (hne : ∀ t ∈ l, t.isNil = false) (hc : nodesL l ≤ 10000) (hi : (itemsL l).length ≤ 10000) (hn : ((itemsL l).map Prod.snd).Nodup)
    (q : ∀ r S', Ext S S' → S.length ≤ r → S'[r]? = some (.lst ((sortPr (prsL l)).map prD)) → Q (.ref r) S') : callZ PP (n + 2) f_soft_items [.tup (dsL l)] S Q X := by
  refine enter rfl rfl ?_
  show wpCs _ k_soft_items_0 _ [some (.tup (dsL l)), none, none] S
  bv_omega
  refine tickets_ok2 n l S _ _ hne hc hi fun V S1 x1 pv hd => ?_
  have hVn : (V.map fun p => p.1.2).Nodup := by
    have e : (prsL l).map (fun p => p.1.2) = (itemsL l).map Prod.snd := by rw [← prsL_items, List.map_map]; rfl
    exact ((pv.map fun p => p.1.2).nodup_iff).mpr (by rw [e]; exact hn)
  have hVl : V.length ≤ 10000 := by
    have := pv.length_eq
    rw [← List.length_map (f := Prod.fst) (as := prsL l), prsL_items] at this
    omega
  rw [dAll_nd V hVn] at hd
  ac_rfl
  show wpCs _ k_soft_items_1 _ [some (.tup (dsL l)), some (.ref S.length), none] S1
  bv_omega
  refine keys_go hd ?_
  have hd2 : (S1.set S.length (.fdct (V.map fun p => (.inl p.1.2, prD p))))[S.length]? = some (.fdct (V.map fun p => (.inl p.1.2, prD p))) := get_set hd
  have x2 : Ext S (S1.set S.length (.fdct (V.map fun p => (.inl p.1.2, prD p)))) := x1.set (Nat.le_refl _) _
  generalize S1.set S.length (.fdct (V.map fun p => (.inl p.1.2, prD p))) = S2 at hd2 x2
  have el : (V.map fun p => ((.inl p.1.2, prD p) : Key × D)).map (fun kv => keyD kv.1) = V.map fun p => D.int p.1.2 := by rw [List.map_map]; rfl
  rw [el]
  refine lcB_at (n := S2.length) _ (fun i acc S' => acc = (V.take i).map prD ∧ S' = S2 ++ [.lst acc]) ?_ ?_ ?_ ⟨rfl, rfl⟩
  · rintro i acc S' ⟨rfl, rfl⟩
    exact get_push hd2 _
  · rintro acc S' ⟨rfl, rfl⟩
    rw [List.length_map, List.take_length]
    refine sorted_go (last_get _ _) (ord_prs V) ?_
    rw [sortD_pr, show sortPr V = sortPr (prsL l) from lin_pr.sort_eq pv]
    exact q _ _ (x2.trans ((Ext.push _ _).trans (Ext.push _ _))) (by have := x2.len; simp; omega) (last_get _ _)
  · rintro i d hd3 acc S' ⟨rfl, rfl⟩
    rw [List.getElem?_map] at hd3
    cases ei : V[i]? with
    | none => rw [ei] at hd3; cases hd3
    | some p =>
      rw [ei] at hd3
      cases hd3
      refine ⟨_, rfl, ?_⟩
      ac_rfl
      refine ixf_go (k := .inl p.1.2) (get_push hd2 _) (dGet_map (fun p : Pr => (.inl p.1.2 : Key)) prD V ?_ p (List.mem_of_getElem? ei)) ?_
      · have : (V.map fun p => (.inl p.1.2 : Key)) = (V.map fun p => p.1.2).map .inl := by rw [List.map_map]; rfl
        rw [this]
        exact nodup_map _ (fun _ _ h => by injection h) hVn
      · have e : V.take (i + 1) = V.take i ++ [p] := by
          rw [List.take_add_one, ei]
          rfl
        refine ⟨last_get _ _, by simp; omega, ?_, ?_⟩
        · rw [e, List.map_append]
          rfl
        · rw [List.set_append_right _ _ (Nat.le_refl _), Nat.sub_self]
          rfl
end Mn
namespace Mn
open PySem
def mayF (n sl : Int) : Nat → Int
  | 0 => 0
  | k + 1 => mayF n sl k + 3 * want (sl + 1 + k) sl * (n / 2 ^ (sl + 1 + k).toNat)
theorem two_toNat {a b : Int} (h0 : 0 ≤ a) (h : a ≤ b) : (2 : Int) ^ a.toNat ≤ 2 ^ b.toNat := by
  have : (2 : Nat) ^ a.toNat ≤ 2 ^ b.toNat := Nat.pow_le_pow_right (by decide) (by omega)
  exact_mod_cast this
theorem two_pos (a : Nat) : (0 : Int) < 2 ^ a := by
  have : 0 < (2 : Nat) ^ a := Nat.pow_pos (by decide)
  exact_mod_cast this
theorem div_zero_mono {n : Int} {a b : Int} (h0 : 0 ≤ n) (ha : 0 ≤ a) (h : a ≤ b) (hz : n / 2 ^ a.toNat = 0) : n / 2 ^ b.toNat = 0 := by
  have p := two_pos a.toNat
  have q := two_toNat ha h
  have h1 : n < 2 ^ a.toNat := by
    have := Int.emod_lt_of_pos n p
    have e := Int.mul_ediv_add_emod n (2 ^ a.toNat)
    rw [hz] at e
    omega
  exact Int.ediv_eq_zero_of_lt h0 (by omega)
theorem may_stop {n sl : Int} (h0 : 0 ≤ n) (hs : 0 ≤ sl) {k : Nat} (hz : n / 2 ^ (sl + 1 + k).toNat = 0) : ∀ j : Nat, mayF n sl (k + j) = mayF n sl k
  | 0 => rfl
  | j + 1 => by
    show mayF n sl (k + j) + 3 * want (sl + 1 + (k + j : Nat)) sl * (n / 2 ^ (sl + 1 + (k + j : Nat)).toNat) = _
    rw [div_zero_mono h0 (by omega) (by omega) hz, Int.mul_zero, Int.add_zero]
    exact may_stop h0 hs hz j
theorem want_le2 {sl : Int} {k : Nat} (hs : 0 ≤ sl) (hk : k ≤ 20) : 0 ≤ want (sl + 1 + k) sl ∧ want (sl + 1 + k) sl ≤ 2 ^ 21 := by
  unfold want
  have e : (sl + 1 + k - sl).toNat = k + 1 := by omega
  rw [e]
  have h1 := want_pos (k + 1)
  have h2 := want_le (k + 1)
  have h3 : (2 : Int) ^ (k + 1) ≤ 2 ^ 21 := by
    have : (2 : Nat) ^ (k + 1) ≤ 2 ^ 21 := Nat.pow_le_pow_right (by decide) (by omega)
    exact_mod_cast this
  omega
theorem div_le {n : Int} (h0 : 0 ≤ n) (a : Nat) : 0 ≤ n / 2 ^ a ∧ n / 2 ^ a ≤ n := ⟨Int.ediv_nonneg h0 (Int.le_of_lt (two_pos a)), Int.ediv_le_self _ h0⟩
theorem may_slip_ok (n : Nat) (x sl : Int) (S : Store) (Q : DK) (X : XK) (h0 : 0 ≤ x) (h1 : x ≤ 300) (s0 : 0 ≤ sl) (s1 : sl ≤ 8) (q : Q (.int (mayF x sl 12)) S) : callZ PP (n + 2) f_may_slip [.int x, .int sl] S Q X := by
  refine enter rfl rfl ?_
  show wpCs _ k_may_slip_0 _ [some (.int x), some (.int sl), none, none] S
  bv_omega
  bv_omega
  bv_omega
  refine whB_at (fun f ρ S' => ∃ k : Nat, ρ = [some (.int x), some (.int sl), some (.int (mayF x sl k)), some (.int (sl + 1 + k))] ∧ S' = S ∧ k + f = 12) ?_ 12 ⟨0, by simp [mayF], rfl, rfl⟩
  rintro f ρ S' ⟨k, rfl, rfl, hk⟩ N hN
  ac_rfl
  refine ⟨by omega, ?_⟩
  ac_rfl
  cases hz : decide (0 < x / 2 ^ (sl + 1 + (k : Int)).toNat) with
  | false =>
    have hz := of_decide_eq_false hz
    have hd := div_le h0 (sl + 1 + (k : Int)).toNat
    show wpCs _ k_may_slip_3 _ _ _
    bv_omega
    have := may_stop h0 s0 (k := k) (n := x) (by omega) f
    rw [hk] at this
    rw [← this]
    exact q
  | true =>
    have hz := of_decide_eq_true hz
    have hf : 0 < f := by
      refine Nat.pos_of_ne_zero fun e => ?_
      have h2 : x / 2 ^ (sl + 1 + (k : Int)).toNat = 0 := by
        refine div_zero_mono (a := 9) h0 (by decide) (by omega) ?_
        exact Int.ediv_eq_zero_of_lt h0 (by show x < 2 ^ 9; omega)
      omega
    obtain ⟨hw0, hw1⟩ := want_le2 (sl := sl) (k := k) s0 (by omega)
    have hd := div_le h0 (sl + 1 + (k : Int)).toNat
    show wpCs _ k_may_slip_2a0 _ _ _
    bv_omega
    refine want_of_ok n (sl + 1 + k) sl S' _ _ (by omega) (by omega) ?_
    ac_rfl
    refine ⟨Sm.of_le (by decide) (by decide), Sm.of_le (by omega) (by omega), ?_⟩
    refine ⟨by omega, ?_⟩
    ac_rfl
    refine ⟨Sm.of_le (by omega) (by omega), Sm.of_le (by omega) (by omega), ?_⟩
    ac_rfl
    bv_omega
    refine hN (f - 1) _ _ (by omega) ⟨k + 1, ?_, rfl, by omega⟩
    rw [show sl + 1 + ((k + 1 : Nat) : Int) = sl + 1 + k + 1 by omega]
    rfl
end Mn
namespace Mn
open PySem
abbrev It2 := Int × Int
def Bnd (its : List It2) : Prop := ∀ i ∈ its, 0 ≤ i.2 ∧ i.2 < 10000000
structure Its (its : List It2) : Prop where
  b : Bnd its
  nd : (its.map Prod.snd).Nodup
theorem Its.sub {its : List It2} (h : Its its) (p : It2 → Bool) : Its (its.filter p) := ⟨fun i hi => h.b i (List.mem_filter.mp hi).1, h.nd.sublist (List.Sublist.map _ List.filter_sublist)⟩
theorem Its.nodup {its : List It2} (h : Its its) : its.Nodup := by
  have := h.nd
  unfold List.Nodup at this
  rw [List.pairwise_map] at this
  exact this.imp fun hab e => hab (by rw [e])
end Mn
namespace Mn
open PySem
end Mn
namespace Mn
open PySem
def Lk (k : Int) (t : SH) : Prop := t.isNil = false → k ≤ t.key
def Rk (r : Int) (t : SH) : Prop := t.isNil = false → t.rank = r
def kB (k : Int) : Prop := -1000000000000 ≤ k ∧ k ≤ 1000000000000
structure RowOk (sl r k : Int) (row : List It2) : Prop where
  le : ∀ i ∈ row, i.1 ≤ k
  len : (row.length : Int) ≤ 3 * want r sl
  low : r ≤ sl → row.length ≤ 1 ∧ ∀ i ∈ row, i.1 = k
  kb : kB k
def Hs (sl : Int) : SH → Prop
  | .nil => True
  | .node r k row a b => RowOk sl r k row ∧ (Lk k a ∧ Lk k b) ∧ (Rk (r - 1) a ∧ Rk (r - 1) b) ∧ Hs sl a ∧ Hs sl b
theorem want_up {r sl : Int} (h : sl < r) : 3 * want (r - 1) sl ≤ 2 * want r sl := by
  unfold want
  obtain ⟨k, hk⟩ : ∃ k : Nat, (r - sl).toNat = k + 1 := ⟨(r - sl).toNat - 1, by omega⟩
  have h2 : (r - 1 - sl).toNat = k := by omega
  rw [hk, h2]
  show 3 * wantN k ≤ 2 * ((3 * wantN k + 1) / 2)
  omega
theorem want_low {r sl : Int} (h : r ≤ sl) : want r sl = 1 := by
  unfold want
  rw [show (r - sl).toNat = 0 by omega]
  rfl
theorem want_ge (r sl : Int) : 1 ≤ want r sl := want_pos _
theorem firstS_min {a b A B : SH} (e : firstS a b = (A, B)) : Lk A.key B := by
  unfold firstS at e
  intro hB
  cases hc : (a.isNil || (!b.isNil && decide (b.key < a.key))) with
  | true =>
    rw [hc, if_pos rfl] at e
    cases e
    rw [hB, Bool.false_or, Bool.and_eq_true, decide_eq_true_eq] at hc
    omega
  | false =>
    rw [hc, if_neg Bool.false_ne_true] at e
    cases e
    rw [Bool.or_eq_false_iff] at hc
    rw [hB] at hc
    have := hc.2
    simp at this
    omega
structure Pre (sl r k : Int) (row : List It2) (a b : SH) : Prop where
  ha : Hs sl a
  hb : Hs sl b
  ra : Rk (r - 1) a
  rb : Rk (r - 1) b
  st : row = [] ∨ (RowOk sl r k row ∧ Lk k a ∧ Lk k b)
theorem Hs.pre {sl r k : Int} {row : List It2} {a b : SH} (h : Hs sl (.node r k row a b)) : Pre sl r k row a b := ⟨h.2.2.2.1, h.2.2.2.2, h.2.2.1.1, h.2.2.1.2, .inr ⟨h.1, h.2.1⟩⟩
theorem fill_hs {sl : Int} : ∀ (n : Nat) (r k : Int) (row : List It2) (a b : SH), (SH.node r k row a b).nodes ≤ n → Pre sl r k row a b → ((RowOk sl r k row ∧ Lk k a ∧ Lk k b) ∨ (!a.isNil || !b.isNil) = true) →
    Hs sl (fillF sl n (.node r k row a b)) ∧ ∀ c, ((row = [] ∧ (!a.isNil || !b.isNil) = true) ∨ c ≤ k) → Lk c a → Lk c b → c ≤ (fillF sl n (.node r k row a b)).key
  | 0, r, k, row, a, b, hn, _, _ => by
    have : a.nodes + b.nodes + 1 ≤ 0 := hn
    omega
  | n + 1, r, k, row, a, b, hn, P, hr => by
    cases hg : goesOn sl (.node r k row a b) with
    | false =>
      rw [fill_stop hg]
      have no : ¬ (row = [] ∧ (!a.isNil || !b.isNil) = true) := fun ⟨z, h⟩ => by
        subst z
        have hw := want_ge r sl
        have : goesOn sl (.node r k [] a b) = true := by
          show (decide (((0 : Nat) : Int) < want r sl) && (!a.isNil || !b.isNil)) = true
          rw [h, decide_eq_true (by omega)]
          rfl
        rw [this] at hg
        cases hg
      have ok : RowOk sl r k row ∧ Lk k a ∧ Lk k b := by
        rcases hr with h | h
        · exact h
        · rcases P.st with z | z
          · exact absurd ⟨z, h⟩ no
          · exact z
      refine ⟨⟨ok.1, ok.2, ⟨P.ra, P.rb⟩, P.ha, P.hb⟩, fun c hc _ _ => ?_⟩
      rcases hc with z | z
      · exact absurd z no
      · exact z
    | true =>
      obtain ⟨hlt, hk⟩ := Bool.and_eq_true_iff.mp hg
      have hlt : (row.length : Int) < want r sl := of_decide_eq_true hlt
      have hne := firstS_ne hk
      have hnod := firstS_nodes a b
      have hmin := firstS_min (show firstS a b = ((firstS a b).1, (firstS a b).2) from rfl)
      rw [fill_go hg (show firstS a b = ((firstS a b).1, (firstS a b).2) from rfl) n]
      have h1 : a.nodes + b.nodes + 1 ≤ n + 1 := hn
      have both : ∀ Q : SH → Prop, Q a → Q b → Q (firstS a b).1 ∧ Q (firstS a b).2 := fun Q x y => by
        rcases firstS_cases a b with e | e <;> rw [e] <;> first | exact ⟨x, y⟩ | exact ⟨y, x⟩
      obtain ⟨hA, hB⟩ := both (Hs sl) P.ha P.hb
      obtain ⟨rA, rB⟩ := both (Rk (r - 1)) P.ra P.rb
      have lk : ∀ c, Lk c a → Lk c b → Lk c (firstS a b).1 := fun c x y => (both (Lk c) x y).1
      generalize (firstS a b).1 = A at *
      generalize (firstS a b).2 = B at *
      cases A with
      | nil => cases hne
      | node ra ka rowa aa ba =>
        have eA : aa.nodes + ba.nodes + 1 + B.nodes = a.nodes + b.nodes := hnod
        have era : ra = r - 1 := rA rfl
        obtain ⟨w1, ⟨w2', w3⟩, ⟨w4, w5⟩, w6, w7⟩ := hA
        have hmin : Lk ka B := hmin
        have hkA : row = [] ∨ k ≤ ka := by
          rcases P.st with z | ⟨_, z1, z2⟩
          · exact .inl z
          · exact .inr (lk k z1 z2 rfl)
        have side : Hs sl (if (SH.node ra ka rowa aa ba).leaf = true then SH.nil else fillF sl n (SH.node ra ka rowa aa ba).emptied) ∧ Lk ka (if (SH.node ra ka rowa aa ba).leaf = true then SH.nil else fillF sl n (SH.node ra ka rowa aa ba).emptied) ∧ Rk (r - 1) (if (SH.node ra ka rowa aa ba).leaf = true then SH.nil else fillF sl n (SH.node ra ka rowa aa ba).emptied) ∧
            (if (SH.node ra ka rowa aa ba).leaf = true then SH.nil else fillF sl n (SH.node ra ka rowa aa ba).emptied).nodes + B.nodes + 1 ≤ n := by
          split
          · refine ⟨trivial, fun z => (by cases z), fun z => (by cases z), ?_⟩
            show 0 + B.nodes + 1 ≤ n
            omega
          · rename_i hl
            have hl2 : (SH.node ra ka rowa aa ba).leaf = false := by simpa using hl
            have hss : (!aa.isNil || !ba.isNil) = true := by
              rw [leaf_iff] at hl2
              cases haa : aa.isNil <;> cases hba : ba.isNil <;> simp [SH.one, SH.other, haa, hba] at hl2 ⊢
            have hnn : (SH.node ra ka [] aa ba).nodes ≤ n := by show aa.nodes + ba.nodes + 1 ≤ n; omega
            obtain ⟨f1, f2⟩ := fill_hs n ra ka [] aa ba hnn ⟨w6, w7, w4, w5, .inl rfl⟩ (.inr hss)
            have := (fill_nodes (sl := sl) n (SH.node ra ka rowa aa ba).emptied hnn).2 (emptied_goes hl2)
            have e1 : (SH.node ra ka rowa aa ba).emptied.nodes = aa.nodes + ba.nodes + 1 := rfl
            refine ⟨f1, fun _ => f2 ka (.inl ⟨rfl, hss⟩) w2' w3, fun _ => ?_, by omega⟩
            rw [fill_rank]
            exact era
        generalize (if (SH.node ra ka rowa aa ba).leaf = true then SH.nil else fillF sl n (SH.node ra ka rowa aa ba).emptied) = A' at *
        obtain ⟨s1, s2, s3, s4⟩ := side
        have ro : RowOk sl r ka (row ++ rowa) := by
          refine ⟨fun i hi => ?_, ?_, fun hlow => ?_, w1.kb⟩
          · rcases List.mem_append.mp hi with z | z
            · rcases hkA with e | e
              · rw [e] at z; exact nomatch z
              · rcases P.st with y | ⟨y, _, _⟩
                · rw [y] at z; exact nomatch z
                · exact Int.le_trans (y.le i z) e
            · exact w1.le i z
          · rw [List.length_append]
            have l1 := w1.len
            rw [era] at l1
            by_cases hh : sl < r
            · have := want_up hh
              omega
            · have e1 := want_low (r := r) (sl := sl) (by omega)
              have := (w1.low (by omega)).1
              omega
          · have e1 := want_low hlow
            have hrow : row = [] := by
              cases row with
              | nil => rfl
              | cons x y => rw [List.length_cons] at hlt; omega
            subst hrow
            rw [List.nil_append]
            exact w1.low (by omega)
        obtain ⟨g1, g2⟩ := fill_hs n r ka (row ++ rowa) A' B (by show A'.nodes + B.nodes + 1 ≤ n; exact s4) ⟨s1, hB, s3, rB, .inr ⟨ro, s2, hmin⟩⟩ (.inl ⟨ro, s2, hmin⟩)
        refine ⟨g1, fun c hc la lb => g2 c (.inr ?_) (fun z => ?_) fun z => ?_⟩
        · exact lk c la lb rfl
        · exact Int.le_trans (lk c la lb rfl) (s2 z)
        · exact Int.le_trans (lk c la lb rfl) (hmin z)
def Rs (l : List SH) : Prop := (l.map SH.rank).Pairwise (· < ·)
theorem jst_hs {sl : Int} {m : Nat} {one other : List SH} (h1 : Shp one) (h2 : Shp other) (hN : Fit m (sumF w2 (one ++ other))) (q : ∀ t ∈ one ++ other, Hs sl t) : ∀ i, i ≤ 400 →
    (∀ t ∈ (jst sl m one other i).1, Hs sl t) ∧ (∀ c, (jst sl m one other i).2 = some c → Hs sl c) ∧ Rs (jst sl m one other i).1
  | 0, _ => ⟨fun t h => (nomatch h), fun c e => (nomatch e), List.Pairwise.nil⟩
  | i + 1, hi => by
    obtain ⟨ih1, ih2, ih3⟩ := jst_hs h1 h2 hN q i (by omega)
    have jo := jst_ok (sl := sl) h1 h2 hN i (by omega)
    have hrt := row_tr (sl := sl) h1 h2 hN i (by omega)
    have hrow : ∀ t ∈ rowAt one other i (jst sl m one other i).2, Hs sl t := fun t ht => by
      unfold rowAt at ht
      rcases List.mem_append.mp ht with h | h
      · exact q t (atR_rank h).1
      · exact ih2 t (by simpa using h)
    have hlen : (rowAt one other i (jst sl m one other i).2).length ≤ 3 := by
      unfold rowAt
      rw [atR_app, List.length_append, List.length_append]
      have a1 := atR_len h1.nd i
      have a2 := atR_len h2.nd i
      have a3 : (jst sl m one other i).2.toList.length ≤ 1 := by cases (jst sl m one other i).2 <;> simp
      omega
    have app : ∀ r : List SH, (∀ t ∈ r, Hs sl t ∧ t.rank = (i : Int)) → r.length ≤ 1 → (∀ t ∈ (jst sl m one other i).1 ++ r, Hs sl t) ∧ Rs ((jst sl m one other i).1 ++ r) := fun r hr hl => by
      refine ⟨fun t ht => ?_, ?_⟩
      · rcases List.mem_append.mp ht with h | h
        · exact ih1 t h
        · exact (hr t h).1
      · unfold Rs
        rw [List.map_append, List.pairwise_append]
        refine ⟨ih3, ?_, ?_⟩
        · match r, hl with
          | [], _ => exact List.Pairwise.nil
          | [t], _ => exact List.pairwise_singleton _ _
        · intro x hx y hy
          obtain ⟨t, ht, rfl⟩ := List.mem_map.mp hx
          obtain ⟨u, hu, rfl⟩ := List.mem_map.mp hy
          have a1 := (jo.1 t ht).2
          have a2 := (hr u hu).2
          omega
    show _ ∧ _ ∧ _
    rw [show jst sl m one other (i + 1) = jstep sl m one other i (jst sl m one other i) from rfl]
    unfold jstep
    split
    · rename_i a b r e
      have fit := row_fit (sl := sl) h1 h2 hN i (by omega) e
      rw [e] at hrow hlen hrt
      obtain ⟨p1, p2⟩ := app r (fun t ht => ⟨hrow t (by simp [ht]), (hrt t (by simp [ht])).2⟩) (by simp at hlen; omega)
      refine ⟨p1, fun c ec => ?_, p2⟩
      cases ec
      have ta := hrt a (by simp)
      have tb := hrt b (by simp)
      refine (fill_hs m _ 0 [] a b (by show a.nodes + b.nodes + 1 ≤ m; exact fit) ⟨hrow a (by simp), hrow b (by simp), fun _ => ?_, fun _ => ?_, .inl rfl⟩ (.inr ?_)).1
      · rw [ta.2]; omega
      · rw [tb.2]; omega
      · rw [ta.1.ne]; rfl
    · rename_i hne
      have hl1 : (rowAt one other i (jst sl m one other i).2).length ≤ 1 := by
        match hh : rowAt one other i (jst sl m one other i).2 with
        | [] => simp
        | [_] => simp
        | a :: b :: r => exact absurd hh (hne a b r)
      obtain ⟨p1, p2⟩ := app _ (fun t ht => ⟨hrow t ht, (hrt t ht).2⟩) hl1
      exact ⟨p1, fun c ec => (nomatch ec), p2⟩
structure Kept (sl : Int) (l : List SH) : Prop where
  hs : ∀ t ∈ l, Hs sl t
  rs : Rs l
theorem Kept.nil (sl : Int) : Kept sl [] := ⟨fun t h => (nomatch h), List.Pairwise.nil⟩
theorem Kept.one {sl : Int} (s0 : 0 ≤ sl) {i : It2} (hb : kB i.1) : Kept sl (oneS i) := by
  refine ⟨fun t ht => ?_, List.pairwise_singleton _ _⟩
  rw [List.mem_singleton.mp ht]
  refine ⟨⟨fun j hj => by rw [List.mem_singleton.mp hj]; exact Int.le_refl _, ?_, fun _ => ⟨Nat.le_refl _, fun j hj => by rw [List.mem_singleton.mp hj]⟩, hb⟩, ⟨fun z => (by cases z), fun z => (by cases z)⟩, ⟨fun z => (by cases z), fun z => (by cases z)⟩, trivial, trivial⟩
  have := want_ge 0 sl
  show ((1 : Nat) : Int) ≤ _
  omega
theorem Kept.join {sl : Int} {m : Nat} {one other : List SH} (k1 : Kept sl one) (k2 : Kept sl other) (h1 : Shp one) (h2 : Shp other) (hN : Fit m (sumF w2 (one ++ other))) : Kept sl (joinS sl m one other) := by
  obtain ⟨a, _, c⟩ := jst_hs (sl := sl) h1 h2 hN (fun t ht => by
    rcases List.mem_append.mp ht with z | z
    · exact k1.hs t z
    · exact k2.hs t z) 12 (by omega)
  exact ⟨a, c⟩
theorem left_hs {sl : Int} {m : Nat} {t : SH} (h : Hs sl t) (hn : t.nodes ≤ m) : ∀ u ∈ leftS sl m t, Hs sl u := by
  cases t with
  | nil => exact fun u hu => (nomatch hu)
  | node r k row a b =>
    obtain ⟨h1, h2, h3, h4, h5⟩ := h
    have ro : RowOk sl r k (row.drop 1) := by
      refine ⟨fun i hi => h1.le i (List.mem_of_mem_drop hi), ?_, fun hl => ?_, h1.kb⟩
      · have := h1.len
        rw [List.length_drop]
        omega
      · obtain ⟨l1, l2⟩ := h1.low hl
        exact ⟨by rw [List.length_drop]; omega, fun i hi => l2 i (List.mem_of_mem_drop hi)⟩
    have node : Hs sl (.node r k (row.drop 1) a b) := ⟨ro, h2, h3, h4, h5⟩
    simp only [leftS]
    split
    · split
      · split
        · exact fun u hu => (nomatch hu)
        · exact fun u hu => by rw [List.mem_singleton.mp hu]; exact node
      · exact fun u hu => by
          rw [List.mem_singleton.mp hu]
          exact (fill_hs m r k (row.drop 1) a b hn node.pre (.inl ⟨ro, h2⟩)).1
    · exact fun u hu => by rw [List.mem_singleton.mp hu]; exact node
theorem Kept.take {sl : Int} {m : Nat} {l : List SH} {k : Nat} {lo hi : Int} (K : Kept sl l) (g : Grn l k lo hi) (hm : Fit m k) (hne : l ≠ []) : Kept sl (takeS sl m l).2 := by
  obtain ⟨t, gt, _⟩ := minAt_get hne
  have htl : t ∈ l := List.mem_of_getElem? gt
  have hnod0 := mem_sum w2 htl
  have hnod1 := hm t.rank.toNat (Nat.le_trans hnod0 g.w)
  have hnod2 := tr_nodes (g.shp.tr t htl)
  have hnod : t.nodes ≤ m := by unfold w2 at hnod2; omega
  obtain ⟨e1, e2⟩ := take_left (sl := sl) (m := m) (g.shp.tr t htl) hnod
  have e3 := left_hs (m := m) (K.hs t htl) hnod
  have es := split_at gt
  have etk : (takeS sl m l).2 = l.take (minAt l) ++ leftS sl m t ++ l.drop (minAt l + 1) := by
    unfold takeS
    rw [gt]
  rw [etk]
  have hs := K.hs
  have rs := K.rs
  unfold Rs at rs
  rw [es] at hs rs
  generalize l.take (minAt l) = A at *
  generalize l.drop (minAt l + 1) = B at *
  generalize leftS sl m t = L at *
  have e2' : ∀ u ∈ L, u.rank = t.rank := fun u hu => (e2 u hu).2.1
  refine ⟨fun u hu => ?_, ?_⟩
  · rcases List.mem_append.mp hu with z | z
    · rcases List.mem_append.mp z with z | z
      · exact hs u (by simp [z])
      · exact e3 u z
    · exact hs u (by simp [z])
  · unfold Rs
    match L, e1, e2' with
    | [], _, _ =>
      rw [List.append_nil]
      refine rs.sublist ((List.Sublist.append ?_ (List.Sublist.refl _)).map _)
      exact List.sublist_append_left _ _
    | [u], _, e2' =>
      have : (A ++ [u] ++ B).map SH.rank = (A ++ [t] ++ B).map SH.rank := by simp [e2' u (by simp)]
      rw [this]
      exact rs
def nd (r : Int) : SH → Nat
  | .nil => 0
  | .node r' _ _ a b => (if r' = r then 1 else 0) + nd r a + nd r b
end Mn
namespace Mn
open PySem
def Rr : SH → Prop
  | .nil => True
  | .node r _ _ a b => (Rk (r - 1) a ∧ Rk (r - 1) b) ∧ Rr a ∧ Rr b
theorem Hs.rr {sl : Int} : ∀ {t : SH}, Hs sl t → Rr t
  | .nil, _ => trivial
  | .node _ _ _ _ _, h => ⟨h.2.2.1, h.2.2.2.1.rr, h.2.2.2.2.rr⟩
theorem emptied_rr {t : SH} (h : Rr t) : Rr t.emptied := by cases t <;> exact h
theorem fill_rr {sl : Int} : ∀ (n : Nat) {t : SH}, Rr t → Rr (fillF sl n t.emptied)
  | n, t, h => by
    have key : ∀ (n : Nat) (t : SH), Rr t → Rr (fillF sl n t) := by
      intro n
      induction n with
      | zero => exact fun t h => h
      | succ n ih =>
        intro t h
        unfold fillF
        split
        · rename_i hg
          cases t with
          | nil => cases hg
          | node r k row a b =>
            obtain ⟨⟨h1, h2⟩, h3, h4⟩ := h
            have hf : (Rk (r - 1) (firstS a b).1 ∧ Rr (firstS a b).1) ∧ Rk (r - 1) (firstS a b).2 ∧ Rr (firstS a b).2 := by
              rcases firstS_cases a b with e | e <;> rw [e] <;> first | exact ⟨⟨h1, h3⟩, h2, h4⟩ | exact ⟨⟨h2, h4⟩, h1, h3⟩
            refine ih _ ⟨⟨?_, hf.2.1⟩, ?_, hf.2.2⟩
            · show Rk (r - 1) (if (firstS a b).1.leaf = true then SH.nil else fillF sl n (firstS a b).1.emptied)
              split
              · exact fun z => (by cases z)
              · intro _
                rw [fill_rank]
                have hne := firstS_ne (a := a) (b := b) (Bool.and_eq_true_iff.mp hg).2
                have e : (firstS a b).1.emptied.rank = (firstS a b).1.rank := by cases (firstS a b).1 <;> rfl
                rw [e]
                exact hf.1.1 hne
            · show Rr (if (firstS a b).1.leaf = true then SH.nil else fillF sl n (firstS a b).1.emptied)
              split
              · trivial
              · exact ih _ (emptied_rr hf.1.2)
        · exact h
    exact key n _ (emptied_rr h)
theorem filled_okR {sl : Int} (s0 : 0 ≤ sl) (s1 : sl ≤ 500) : ∀ (R m n : Nat) (r k : Int) (row : List (Int × Int)) (a b : SH) (S : Store) (Q : DK) (X : XK), r.toNat ≤ R → Rr (SH.node r k row a b) → (SH.node r k row a b).nodes ≤ m → (SH.node r k row a b).rb → (SH.node r k row a b).cnt ≤ 1000 →
    Q (fillF sl m (.node r k row a b)).d S → callZ PP (n + R + 2) f_filled [(SH.node r k row a b).d, .int sl] S Q X := by
  intro R
  induction R using Nat.strongRecOn with
  | ind R ih =>
    intro m n r k row a b S Q X hR hrr hn hr hc h
    refine enter rfl rfl ?_
    refine wh_at (tmono _) (bmono _) (fun f ρ S' => ∃ k' row' a' b', ρ = [some (SH.node r k row a b).d, some (.int sl), some (.int r), some (.int k'), some (.tup (row'.map itD)), some a'.d, some b'.d] ∧ S' = S ∧ f ≤ m ∧ (SH.node r k' row' a' b').nodes ≤ f ∧ (SH.node r k' row' a' b').rb ∧ (SH.node r k' row' a' b').cnt ≤ 1000 ∧ Rr (SH.node r k' row' a' b') ∧ fillF sl f (.node r k' row' a' b') = fillF sl m (.node r k row a b)) ?_ m ⟨k, row, a, b, rfl, rfl, Nat.le_refl _, hn, hr, hc, hrr, rfl⟩
    rintro f ρ S' ⟨k', row', a', b', rfl, rfl, hf, hn', hr', hc', hrr', hq⟩
    have hrow : row'.length ≤ 1000 := by
      have : row'.length + a'.cnt + b'.cnt ≤ 1000 := hc'
      omega
    have fin : goesOn sl (.node r k' row' a' b') = false → Q (.tup [.int r, .int k', .tup (row'.map itD), a'.d, b'.d]) S' := fun hg => by
      rw [← hq, fill_stop hg] at h
      exact h
    refine ⟨by show (row'.map itD).length ≤ 1000000; rw [List.length_map]; omega, ?_⟩
    refine want_of_ok (n + R) r sl S' _ _ (by have := hr'.1; omega) (by have := hr'.2.1; omega) ?_
    have el : ((row'.map itD).length : Int) = (row'.length : Int) := by rw [List.length_map]
    show (match D.bl (decide (((row'.map itD).length : Int) < want r sl)) with | .bl true => _ | .bl false => _ | _ => False)
    rw [el]
    cases hlt : decide ((row'.length : Int) < want r sl) with
    | false => exact ⟨nle, fin (by show (decide _ && _) = false; rw [hlt]; rfl)⟩
    | true =>
      obtain ⟨f', rfl⟩ : ∃ f', f = f' + 1 := ⟨f - 1, by
        have : a'.nodes + b'.nodes + 1 ≤ f := hn'
        omega⟩
      have rest : ∀ A B : SH, firstS a' b' = (A, B) → (!a'.isNil || !b'.isNil) = true → wpCs (callZ PP (n + R + 1)) (.cons (.set 4 (.bin .Add (.v 4) (.ix (.v 5) (.cst (.int 2))))) (.cons (.set 3 (.ix (.v 5) (.cst (.int 1)))) (.cons (.set 5 (.ite (.or (.cmp .NotEq (.ix (.v 5) (.cst (.int 3))) (.tup .nil)) (.cmp .NotEq (.ix (.v 5) (.cst (.int 4))) (.tup .nil))) (.call f_filled (.cons (.bin .Add (.bin .Add (.sl (.v 5) .no (.cst (.int 2))) (.tup (.cons (.tup .nil) .nil))) (.sl (.v 5) (.cst (.int 3)) .no)) (.cons (.v 1) .nil))) (.tup .nil))) .nil)))
          ⟨fun ρ S1 => ∃ j, j < f' + 1 ∧ ∃ k'' row'' a'' b'', ρ = [some (SH.node r k row a b).d, some (.int sl), some (.int r), some (.int k''), some (.tup (row''.map itD)), some a''.d, some b''.d] ∧ S1 = S' ∧ j ≤ m ∧ (SH.node r k'' row'' a'' b'').nodes ≤ j ∧ (SH.node r k'' row'' a'' b'').rb ∧ (SH.node r k'' row'' a'' b'').cnt ≤ 1000 ∧ Rr (SH.node r k'' row'' a'' b'') ∧ fillF sl j (.node r k'' row'' a'' b'') = fillF sl m (.node r k row a b), Q, fun _ _ => False, fun _ _ => False, X⟩
          [some (SH.node r k row a b).d, some (.int sl), some (.int r), some (.int k'), some (.tup (row'.map itD)), some A.d, some B.d] S' := by
        intro A B eAB hk
        have hA : A.isNil = false := by
          have := firstS_ne hk
          rw [eAB] at this
          exact this
        cases A with
        | nil => cases hA
        | node ra ka rowa aa ba =>
          have hcA : row'.length + (rowa.length + aa.cnt + ba.cnt + B.cnt) ≤ 1000 := by
            have h1 : row'.length + a'.cnt + b'.cnt ≤ 1000 := hc'
            have h2 := firstS_cnt a' b'
            rw [eAB] at h2
            have h3 : rowa.length + aa.cnt + ba.cnt + B.cnt = a'.cnt + b'.cnt := h2
            omega
          have hnA : aa.nodes + ba.nodes + 1 + B.nodes ≤ f' := by
            have h1 : a'.nodes + b'.nodes + 1 ≤ f' + 1 := hn'
            have h2 := firstS_nodes a' b'
            rw [eAB] at h2
            have h3 : aa.nodes + ba.nodes + 1 + B.nodes = a'.nodes + b'.nodes := h2
            omega
          have hrA : (SH.node ra ka rowa aa ba).rb ∧ B.rb := by
            have h2 := firstS_rb hr'.2.2.1 hr'.2.2.2
            rw [eAB] at h2
            exact h2
          have hrR : (ra = r - 1 ∧ Rk (r - 1) B) ∧ Rr (SH.node ra ka rowa aa ba) ∧ Rr B := by
            obtain ⟨⟨q1, q2⟩, q3, q4⟩ := hrr'
            rcases firstS_cases a' b' with e | e
            · rw [eAB] at e
              obtain ⟨rfl, rfl⟩ := Prod.mk.inj e
              exact ⟨⟨q1 rfl, q2⟩, q3, q4⟩
            · rw [eAB] at e
              obtain ⟨rfl, rfl⟩ := Prod.mk.inj e
              exact ⟨⟨q2 rfl, q1⟩, q4, q3⟩
          have hra0 : 0 ≤ ra := hrA.1.1
          have hg : goesOn sl (.node r k' row' a' b') = true := by
            show (decide _ && _) = true
            rw [hlt, hk]
            rfl
          refine ⟨by show (row'.map itD).length + (rowa.map itD).length ≤ 1000000; rw [List.length_map, List.length_map]; omega, ?_⟩
          have step : ∀ C : SH, C = (if (SH.node ra ka rowa aa ba).leaf = true then SH.nil else fillF sl f' (SH.node ra ka rowa aa ba).emptied) → C.nodes + B.nodes + 1 ≤ f' ∧ C.rb ∧ rowa.length + C.cnt = rowa.length + aa.cnt + ba.cnt ∧ (Rk (r - 1) C ∧ Rr C) ∧ fillF sl f' (.node r ka (row' ++ rowa) C B) = fillF sl m (.node r k row a b) := by
            intro C eC
            have e0 := emptied_cnt (SH.node ra ka rowa aa ba)
            refine ⟨?_, ?_, ?_, ?_, ?_⟩
            · rw [eC]
              split
              · show 0 + B.nodes + 1 ≤ f'
                omega
              · rename_i hl
                have := (fill_nodes (sl := sl) f' (SH.node ra ka rowa aa ba).emptied (by show aa.nodes + ba.nodes + 1 ≤ f'; omega)).2 (emptied_goes (by simpa using hl))
                have e1 : (SH.node ra ka rowa aa ba).emptied.nodes = aa.nodes + ba.nodes + 1 := rfl
                omega
            · rw [eC]
              split
              · trivial
              · exact fill_rb f' (emptied_rb hrA.1)
            · rw [eC]
              split
              · rename_i hl
                have := leaf_cnt hl
                have e1 : rowa.length + aa.cnt + ba.cnt = rowa.length := this
                show rowa.length + 0 = _
                omega
              · rw [fill_cnt]
                have e1 : (SH.node ra ka rowa aa ba).emptied.cnt + rowa.length = rowa.length + aa.cnt + ba.cnt := e0
                omega
            · rw [eC]
              split
              · exact ⟨fun z => (by cases z), trivial⟩
              · exact ⟨fun _ => by rw [fill_rank]; exact hrR.1.1, fill_rr f' hrR.2.1⟩
            · rw [← hq, fill_go hg eAB f', ← eC]
              rfl
          have ends : ∀ C : SH, C = (if (SH.node ra ka rowa aa ba).leaf = true then SH.nil else fillF sl f' (SH.node ra ka rowa aa ba).emptied) → ∃ j, j < f' + 1 ∧ ∃ k'' row'' a'' b'', [some (SH.node r k row a b).d, some (.int sl), some (.int r), some (.int ka), some (.tup (row'.map itD ++ rowa.map itD)), some C.d, some B.d] = [some (SH.node r k row a b).d, some (.int sl), some (.int r), some (.int k''), some (.tup (row''.map itD)), some a''.d, some b''.d] ∧ S' = S' ∧ j ≤ m ∧ (SH.node r k'' row'' a'' b'').nodes ≤ j ∧ (SH.node r k'' row'' a'' b'').rb ∧ (SH.node r k'' row'' a'' b'').cnt ≤ 1000 ∧ Rr (SH.node r k'' row'' a'' b'') ∧ fillF sl j (.node r k'' row'' a'' b'') = fillF sl m (.node r k row a b) := by
            intro C eC
            obtain ⟨c1, c2, c3, c5, c4⟩ := step C eC
            refine ⟨f', Nat.lt_succ_self _, ka, row' ++ rowa, C, B, by rw [List.map_append], rfl, by omega, c1, ⟨hr'.1, hr'.2.1, c2, hrA.2⟩, ?_, ⟨⟨c5.1, hrR.1.2⟩, c5.2, hrR.2.2⟩, c4⟩
            show (row' ++ rowa).length + C.cnt + B.cnt ≤ 1000
            rw [List.length_append]
            omega
          have call : (SH.node ra ka rowa aa ba).leaf = false → ∀ Y : DK, (∀ C : SH, C = (if (SH.node ra ka rowa aa ba).leaf = true then SH.nil else fillF sl f' (SH.node ra ka rowa aa ba).emptied) → Y C.d S') → callZ PP (n + R + 1) f_filled [(SH.node ra ka [] aa ba).d, .int sl] S' Y X := fun hl Y hY => by
            have e3 := hrR.1.1
            rw [show n + R + 1 = n + (R - 1) + 2 by omega]
            refine ih (R - 1) (by omega) f' n ra ka [] aa ba S' Y X (by omega) hrR.2.1 (by show aa.nodes + ba.nodes + 1 ≤ f'; omega) hrA.1 (by show 0 + aa.cnt + ba.cnt ≤ 1000; omega) ?_
            refine hY _ ?_
            rw [hl]
            rfl
          refine ⟨nle, ne_nil aa ?_⟩
          cases haa : aa.isNil with
          | false =>
            refine ⟨nle, nle, nle, nle, ?_⟩
            exact call (by rw [leaf_iff]; show (aa.isNil && ba.isNil) = false; rw [haa]; rfl) _ fun C eC => ends C eC
          | true =>
            refine ⟨nle, ne_nil ba ?_⟩
            cases hba : ba.isNil with
            | false =>
              refine ⟨nle, nle, nle, nle, ?_⟩
              exact call (by rw [leaf_iff]; show (aa.isNil && ba.isNil) = false; rw [haa, hba]; rfl) _ fun C eC => ends C eC
            | true =>
              refine ⟨nle, ?_⟩
              refine ends .nil ?_
              have : (SH.node ra ka rowa aa ba).leaf = true := by rw [leaf_iff]; show (aa.isNil && ba.isNil) = true; rw [haa, hba]; rfl
              rw [this]
              rfl
      refine ⟨nle, ne_nil a' ?_⟩
      cases ha : a'.isNil with
      | false =>
        refine ⟨nle, is_nil a' ?_⟩
        rw [ha]
        refine ⟨nle, ne_nil b' ?_⟩
        cases hb : b'.isNil with
        | true => exact rest a' b' (by unfold firstS; rw [ha, hb]; rfl) (by rw [ha]; rfl)
        | false =>
          cases a' with
          | nil => cases ha
          | node ra ka rowa aa ba =>
            cases b' with
            | nil => cases hb
            | node rb kb rowb ab bb =>
              show (match D.bl (decide (kb < ka)) with | .bl true => _ | .bl false => _ | _ => False)
              cases hd : decide (kb < ka) with
              | true => exact rest (.node rb kb rowb ab bb) (.node ra ka rowa aa ba) (by unfold firstS; show (if (false || (!false && decide (kb < ka))) = true then _ else _) = _; rw [hd]; rfl) rfl
              | false => exact rest (.node ra ka rowa aa ba) (.node rb kb rowb ab bb) (by unfold firstS; show (if (false || (!false && decide (kb < ka))) = true then _ else _) = _; rw [hd]; rfl) rfl
      | true =>
        refine ⟨nle, ne_nil b' ?_⟩
        cases hb : b'.isNil with
        | true => exact ⟨nle, fin (by show (decide _ && _) = false; rw [hlt, ha, hb]; rfl)⟩
        | false =>
          refine ⟨nle, is_nil a' ?_⟩
          rw [ha]
          exact rest b' a' (by unfold firstS; rw [ha]; rfl) (by rw [ha, hb]; rfl)
end Mn
namespace Mn
open PySem
theorem tied_okR {sl : Int} (s0 : 0 ≤ sl) (s1 : sl ≤ 500) (R m n : Nat) (A B : SH) (S : Store) (Q : DK) (X : XK) (hR : (A.rank + 1).toNat ≤ R) (rA : Rr A) (rB : Rr B) (rk : Rk A.rank B) (hA : A.isNil = false) (hn : A.nodes + B.nodes + 1 ≤ m) (hA2 : A.rb) (hB : B.rb) (hr : A.rank ≤ 499) (hc : A.cnt + B.cnt ≤ 1000)
    (h : Q (fillF sl m (.node (A.rank + 1) 0 [] A B)).d S) : callZ PP (n + R + 3) f_tied [A.d, B.d, .int sl] S Q X := by
  cases A with
  | nil => cases hA
  | node ra ka rowa aa ba =>
    refine enter rfl rfl ?_
    refine ⟨nle, nle, ?_⟩
    have h0 : 0 ≤ ra := hA2.1
    refine filled_okR s0 s1 R m n (ra + 1) 0 [] (.node ra ka rowa aa ba) B S _ _ hR ⟨⟨fun _ => by show ra = ra + 1 - 1; omega, fun z => by rw [rk z]; show ra = ra + 1 - 1; omega⟩, rA, rB⟩ hn ⟨by omega, by have : ra ≤ 499 := hr; omega, hA2, hB⟩ ?_ h
    show 0 + (SH.node ra ka rowa aa ba).cnt + B.cnt ≤ 1000
    omega
theorem joined_okR {sl : Int} (s0 : 0 ≤ sl) (s1 : sl ≤ 500) (R m n : Nat) (hR : 12 ≤ R) (one other : List SH) (S : Store) (Q : DK) (X : XK) (h1 : Shp one) (h2 : Shp other) (hd : ∀ i ∈ itemsL one, ∀ j ∈ itemsL other, i.2 ≠ j.2)
    (hq : ∀ t ∈ one ++ other, Hs sl t) (hN : Fit m (sumF w2 (one ++ other))) (hm : m ≤ 5000) (hc : sumF SH.cnt (one ++ other) ≤ 1000) (hw : sumF w2 (one ++ other) < 2 ^ 12)
    (q : ∀ S', Ext S S' → Q (.tup (dsL (joinS sl m one other))) S') : callZ PP (n + R + 4) f_soft_joined [.tup (dsL one), .tup (dsL other), .int sl] S Q X := by
  have hc' := hc
  rw [sumF_app] at hc'
  have sn1 := shp_nodes h1
  have sn2 := shp_nodes h2
  have hi1 : (itemsL one).length ≤ 1000 := by rw [itemsL_len]; omega
  have hi2 : (itemsL other).length ≤ 1000 := by rw [itemsL_len]; omega
  have hn1 : nodesL one ≤ 5000 := by show sumF SH.nodes one ≤ 5000; omega
  have hn2 : nodesL other ≤ 5000 := by show sumF SH.nodes other ≤ 5000; omega
  have hl1 := len_nodes fun t ht => (h1.tr t ht).ne
  have hl2 := len_nodes fun t ht => (h2.tr t ht).ne
  refine enter rfl rfl ?_
  refine tickets_ok (n + R + 2) one S _ _ (fun t ht => (h1.tr t ht).ne) (by omega) (by omega) fun kv1 S1 x1 d1 k1 l1 => ?_
  refine tickets_ok (n + R + 2) other S1 _ _ (fun t ht => (h2.tr t ht).ne) (by omega) (by omega) fun kv2 S2 x2 d2 k2 l2 => ?_
  conv => whnf
  rw [d2]
  refine lc_map (S1 := S2.set S1.length (.fdct kv2)) (tmono _) (tmono _) (fun _ => true) (fun _ => .bl false) _ [] (fun acc => get_push (get_set d2) _) (by rw [List.length_map]; show 0 + kv2.length ≤ 1000000; omega) ?_ ?_
  · intro d hdm
    obtain ⟨p, hp, rfl⟩ := List.mem_map.mp hdm
    obtain ⟨j, hj, e⟩ := k2 p hp
    refine ⟨_, rfl, fun acc => ⟨fun K hK => hK, fun _ K hK => ?_⟩⟩
    have d1' : (S2.set S1.length (.fdct kv2) ++ [Ob.lst acc])[S.length]? = some (.dct kv1) := get_push (get_set_ne (x2.get d1) (by have := x1.len; have := get_lt d1; omega)) _
    conv => whnf
    rw [e, seq_dct d1', dctr_of d1']
    show K (.bl (dGet kv1 (.inl j.2)).isSome) _
    rw [dis_none k1 fun i hi => hd i hi j hj]
    exact hK
  have x3 : Ext S (S2.set S1.length (.fdct kv2)) := (x1.trans x2).set (x1.len) _
  generalize S2.set S1.length (.fdct kv2) = S3 at x3
  rw [List.nil_append, List.filter_eq_self.mpr (fun _ _ => rfl), List.map_map]
  refine es_nil (any_go (last_get S3 _) (bls_false _) ?_)
  rw [show ((kv2.map fun _ => false).any id) = false by simp]
  have x4 : Ext S (S3 ++ [.lst (kv2.map ((fun _ => D.bl false) ∘ fun kv => keyD kv.1))]) := x3.trans (Ext.push _ _)
  generalize S3 ++ [Ob.lst (kv2.map ((fun _ => D.bl false) ∘ fun kv => keyD kv.1))] = S4 at x4
  refine dc_map (S1 := S4) (tmono _) (tmono _) rankK id (dsL one) [] (fun _ => trivial) (by rw [dsL_len]; show 0 + one.length ≤ 1000000; omega) (fun d hdm => ?_) ?_
  · obtain ⟨t, ht, rfl⟩ := List.mem_map.mp hdm
    have hn := (h1.tr t ht).ne
    cases t with
    | nil => cases hn
    | node r k row a b => exact ⟨_, rfl, fun acc => ⟨fun K hK => hK, fun K hK => hK⟩⟩
  rw [foldl_dput one [] h1.nd (fun _ _ _ z => nomatch z), List.nil_append]
  have x5 : Ext S (S4 ++ [.dct (rankD one)]) := x4.trans (Ext.push _ _)
  have d5 : (S4 ++ [Ob.dct (rankD one)])[S4.length]? = some (.dct (rankD one)) := last_get _ _
  have e5 := x4.len
  show wpCs _ _ _ _ (S4 ++ [.dct (rankD one)])
  generalize S4.length = a5 at d5 e5
  generalize S4 ++ [.dct (rankD one)] = S5 at x5 d5
  refine dc_map (S1 := S5) (tmono _) (tmono _) rankK id (dsL other) [] (fun _ => trivial) (by rw [dsL_len]; show 0 + other.length ≤ 1000000; omega) (fun d hdm => ?_) ?_
  · obtain ⟨t, ht, rfl⟩ := List.mem_map.mp hdm
    have hn := (h2.tr t ht).ne
    cases t with
    | nil => cases hn
    | node r k row a b => exact ⟨_, rfl, fun acc => ⟨fun K hK => hK, fun K hK => hK⟩⟩
  rw [foldl_dput other [] h2.nd (fun _ _ _ z => nomatch z), List.nil_append]
  have x6 : Ext S (S5 ++ [.dct (rankD other)]) := x5.trans (Ext.push _ _)
  have d6 : (S5 ++ [Ob.dct (rankD other)])[S5.length]? = some (.dct (rankD other)) := last_get _ _
  have d5' := get_push d5 [.dct (rankD other)]
  have e6 := get_lt d5
  have e7 := x5.len
  show wpCs _ _ _ _ (S5 ++ [.dct (rankD other)])
  generalize S5.length = a7 at d6 e6 e7
  generalize S5 ++ [.dct (rankD other)] = S6 at x6 d6 d5'
  refine ⟨nle, ?_⟩
  have l5 := get_lt d5'
  have l6 := get_lt d6
  have l0 := x6.len
  refine wh_at (tmono _) (bmono _) (fun f ρ S' => ∃ (i : Nat) (x3 x4 x6 x11 : Option D), ρ = [some (.tup (dsL one)), some (.tup (dsL other)), some (.int sl), x3, x4, some (.ref a5), x6, some (.ref a7), some (optD (jst sl m one other i).2), some (.ref S6.length), some (.int i), x11] ∧ Ext S S' ∧ S'[a5]? = some (.dct (rankD one)) ∧ S'[a7]? = some (.dct (rankD other)) ∧ S'[S6.length]? = some (.lst (dsL (jst sl m one other i).1)) ∧ f + i = 12) ?_ 12 ?_
  · rintro f ρ S' ⟨i, x3, x4, x6', x11, rfl, hx, g5, g7, g9, hf⟩
    obtain ⟨j1, j2, j3, j4⟩ := jst_ok (sl := sl) (m := m) h1 h2 hN i (by omega)
    have jw := jst_w (sl := sl) h1 h2 hN i (by omega)
    ac_rfl
    refine listd_go g5 (listd_go (get_push g7 _) (addl_go (get_push (last_get _ _) _) (last_get _ _) ?_ ?_))
    · simp [rankD]
      show one.length + other.length ≤ 1000000
      omega
    rw [ranks_l]
    refine maxd_go (last_get _ _) ?_
    ac_rfl
    have hx2 := ((hx.trans (Ext.push _ (Ob.lst ((rankD one).map fun kv => keyD kv.1)))).trans (Ext.push _ (Ob.lst ((rankD other).map fun kv => keyD kv.1)))).trans (Ext.push _ (Ob.lst (((one ++ other).map SH.rank).map D.int)))
    have g5' := get_push (get_push (get_push g5 [Ob.lst ((rankD one).map fun kv => keyD kv.1)]) [Ob.lst ((rankD other).map fun kv => keyD kv.1)]) [Ob.lst (((one ++ other).map SH.rank).map D.int)]
    have g7' := get_push (get_push (get_push g7 [Ob.lst ((rankD one).map fun kv => keyD kv.1)]) [Ob.lst ((rankD other).map fun kv => keyD kv.1)]) [Ob.lst (((one ++ other).map SH.rank).map D.int)]
    have g9' := get_push (get_push (get_push g9 [Ob.lst ((rankD one).map fun kv => keyD kv.1)]) [Ob.lst ((rankD other).map fun kv => keyD kv.1)]) [Ob.lst (((one ++ other).map SH.rank).map D.int)]
    generalize S' ++ [Ob.lst ((rankD one).map fun kv => keyD kv.1)] ++ [Ob.lst ((rankD other).map fun kv => keyD kv.1)] ++ [Ob.lst (((one ++ other).map SH.rank).map D.int)] = S7 at hx2 g5' g7' g9' ⊢
    have body : i < 12 → ∀ K : Ends, (∀ S' x6 x11, Ext S S' → S'[a5]? = some (.dct (rankD one)) → S'[a7]? = some (.dct (rankD other)) → S'[S6.length]? = some (.lst (dsL (jst sl m one other (i + 1)).1)) →
        K.nx [some (.tup (dsL one)), some (.tup (dsL other)), some (.int sl), x3, x4, some (.ref a5), x6, some (.ref a7), some (optD (jst sl m one other (i + 1)).2), some (.ref S6.length), some (.int ((i + 1 : Nat) : Int)), x11] S') →
        wpCs (callZ PP (n + R + 3)) k_soft_joined_7a0 K [some (.tup (dsL one)), some (.tup (dsL other)), some (.int sl), x3, x4, some (.ref a5), x6', some (.ref a7), some (optD (jst sl m one other i).2), some (.ref S6.length), some (.int i), x11] S7 := by
      intro hi K hK
      bv_omega
      refine ⟨recv_d g5', get1_go (k := .inl i) g5' ⟨recv_d g7', get1_go (k := .inl i) g7' ?_⟩⟩
      rw [rankD_get, rankD_get, opt_get, opt_get]
      refine lcB_map (S1 := S7) isSm id (fun _ => trivial) nle (fun d hdm => ⟨_, rfl, fun acc => ⟨fun K hK => ?_, fun _ K hK => hK⟩⟩) ?_
      · ac_rfl
        cases d <;> exact hK
      rw [List.nil_append, opt_row, ← row_eq h1.nd h2.nd]
      have g5'' := get_push g5' [Ob.lst (dsL (rowAt one other i (jst sl m one other i).2))]
      have g7'' := get_push g7' [Ob.lst (dsL (rowAt one other i (jst sl m one other i).2))]
      have g9'' := get_push g9' [Ob.lst (dsL (rowAt one other i (jst sl m one other i).2))]
      have hx3 := hx2.trans (Ext.push S7 (Ob.lst (dsL (rowAt one other i (jst sl m one other i).2))))
      have g11 := last_get S7 (Ob.lst (dsL (rowAt one other i (jst sl m one other i).2)))
      have ne9 : S6.length < S7.length := get_lt g9'
      have jc := jst_c (sl := sl) (m := m) h1 h2 i (by omega)
      have tot : sumF SH.cnt (rowAt one other i (jst sl m one other i).2) ≤ 1000 := by
        rw [row_sum]
        have s2 := sum_from SH.cnt (one ++ other) i
        omega
      have hrow : ∀ t ∈ rowAt one other i (jst sl m one other i).2, Hs sl t := fun t ht => by
        unfold rowAt at ht
        rcases List.mem_append.mp ht with h | h
        · exact hq t (atR_rank h).1
        · exact (jst_hs (sl := sl) h1 h2 hN hq i (by omega)).2.1 t (by simpa using h)
      have trr := row_tr (sl := sl) h1 h2 hN i (by omega)
      have lenf : (dsL (jst sl m one other i).1).length ≤ 5000 := by
        rw [dsL_len]
        have := len_nodes fun t ht => (j1 t ht).1.ne
        have := sumF_le (f := SH.nodes) (g := SH.cnt) fun t ht => full_nodes (j1 t ht).1.full
        omega
      have lenr := Nat.le_trans (len_nodes fun t ht => (trr t ht).1.ne) (sumF_le (f := SH.nodes) (g := SH.cnt) fun t ht => full_nodes (trr t ht).1.full)
      have fin : ∀ (r : List SH) (c : Option SH) (S8 : Store) (a11 : Nat) (x6 : Option D), jst sl m one other (i + 1) = ((jst sl m one other i).1 ++ r, c) → Ext S S8 → S8[a5]? = some (.dct (rankD one)) → S8[a7]? = some (.dct (rankD other)) → S8[S6.length]? = some (.lst (dsL (jst sl m one other i).1)) → S8[a11]? = some (.lst (dsL r)) → r.length ≤ 5000 →
          wpCs (callZ PP (n + R + 3)) k_soft_joined_7a3 K [some (.tup (dsL one)), some (.tup (dsL other)), some (.int sl), x3, x4, some (.ref a5), x6, some (.ref a7), some (optD c), some (.ref S6.length), some (.int i), some (.ref a11)] S8 := by
        intro r c S8 a11 x6 ej y1 y2 y3 y4 y5 y6
        bv_omega
        refine iadd_go y4 y5 ?_ ?_
        · rw [dsL_len r]
          show _ ≤ 1000000
          omega
        bv_omega
        rw [ej] at hK
        have := hK (S8.set S6.length (.lst (dsL (jst sl m one other i).1 ++ dsL r))) x6 (some (.ref a11)) (y1.set (by omega) _) (get_set_ne y2 (by omega)) (get_set_ne y3 (by omega)) (by rw [get_set y4]; simp [dsL])
        exact this
      generalize S7 ++ [Ob.lst (dsL (rowAt one other i (jst sl m one other i).2))] = S8 at *
      bv_omega
      bv_omega
      refine len_go g11 (by rw [dsL_len]; show _ ≤ 1000000; omega) ?_
      rw [dsL_len]
      have ejs : jst sl m one other (i + 1) = jstep sl m one other i (jst sl m one other i) := rfl
      unfold jstep at ejs
      have rfit : ∀ a b r, rowAt one other i (jst sl m one other i).2 = a :: b :: r → a.nodes + b.nodes + 1 ≤ m := fun a b r e => row_fit h1 h2 hN i (by omega) e
      generalize rowAt one other i (jst sl m one other i).2 = row at *
      match row with
      | [] => exact fin [] none S8 _ _ (by rw [ejs]) hx3 g5'' g7'' g9'' g11 nle
      | [t] => exact fin [t] none S8 _ _ (by rw [ejs]) hx3 g5'' g7'' g9'' g11 nle
      | a :: b :: r =>
        have : decide ((1 : Int) < ((a :: b :: r).length : Nat)) = true := by simp; omega
        rw [r_gt, this]
        bv_omega
        refine ixl_go g11 (L2.atI_nat (j := 0) rfl) (ixl_go g11 (L2.atI_nat (j := 1) rfl) ?_)
        obtain ⟨ta, ra⟩ := trr a (by simp)
        obtain ⟨tb, rb⟩ := trr b (by simp)
        have t1 := rfit a b r rfl
        have t2 := tot
        simp only [sumF_cons] at t2
        refine tied_okR s0 s1 R m n a b S8 _ _ (by rw [ra]; omega) (hrow a (by simp)).rr (hrow b (by simp)).rr (fun _ => by rw [ra, rb]) ta.ne (by omega) ta.rb tb.rb (by omega) (by omega) ?_
        bv_omega
        refine sll_go g11 ?_
        ac_rfl
        rw [show ((2 : Int)) = ((2 : Nat) : Int) from rfl, cut_from]
        rw [show (fillF sl m (.node (a.rank + 1) 0 [] a b)).d = optD (some (fillF sl m (.node ((i : Int) + 1) 0 [] a b))) by rw [ra]; rfl]
        refine fin r _ _ _ _ ejs (hx3.trans (Ext.push _ _)) (get_push g5'' _) (get_push g7'' _) (get_push g9'' _) (last_get _ _) (by simp at lenr; omega)
    have stop : (∀ t ∈ one ++ other, t.rank < (i : Int)) → (jst sl m one other i).2 = none → ∀ k, jst sl m one other (i + k) = jst sl m one other i := by
      intro hr hc k
      induction k with
      | zero => rfl
      | succ k ih =>
        show jstep sl m one other (i + k) (jst sl m one other (i + k)) = _
        rw [ih]
        have e : rowAt one other (i + k) (jst sl m one other i).2 = [] := by
          unfold rowAt
          rw [hc]
          have : atR (one ++ other) (i + k) = [] := by
            unfold atR
            rw [List.filter_eq_nil_iff]
            intro t ht
            have := hr t ht
            simp
            omega
          rw [this]
          rfl
        unfold jstep
        rw [e]
        dsimp only
        rw [List.append_nil, ← hc]
    have b12 : ∀ w, 2 ^ i ≤ w → w ≤ sumF w2 (one ++ other) → i < 12 := fun w hw1 hw2 => by
      have h3 : 2 ^ i < 2 ^ 12 := by omega
      exact (Nat.pow_lt_pow_iff_right (by decide)).mp h3
    cases hb : decide ((i : Int) ≤ maxR ((one ++ other).map SH.rank)) with
    | true =>
      obtain ⟨r, hr, hir⟩ := maxR_le (of_decide_eq_true hb)
      obtain ⟨t, ht, rfl⟩ := List.mem_map.mp hr
      have hi : i < 12 := by
        refine b12 (w2 t) ?_ (mem_sum w2 ht)
        unfold w2
        exact Nat.pow_le_pow_right (by decide) (by omega)
      refine body hi _ fun S' x6 x11 y1 y2 y3 y4 => ?_
      exact ⟨f - 1, by omega, i + 1, _, _, _, _, rfl, y1, y2, y3, y4, by omega⟩
    | false =>
      cases hc2 : (jst sl m one other i).2 with
      | none =>
        show wpCs _ k_soft_joined_8 _ _ _
        bv_omega
        refine tuple_go g9' ?_
        have e := stop (fun t ht => maxR_lt (of_decide_eq_false hb) t.rank (List.mem_map_of_mem ht)) hc2 (12 - i)
        rw [show i + (12 - i) = 12 by omega] at e
        rw [← e]
        exact q S7 hx2
      | some c =>
        obtain ⟨tc, rc⟩ := j3 c hc2
        have hi : i < 12 := by
          refine b12 (w2 c) ?_ ?_
          · unfold w2
            rw [rc, Int.toNat_natCast]
            exact Nat.le_refl _
          · rw [hc2] at jw
            show w2 c ≤ _
            have : optF w2 (some c) = w2 c := rfl
            omega
        rw [hc2] at body
        refine body hi _ fun S' x6 x11 y1 y2 y3 y4 => ?_
        exact ⟨f - 1, by omega, i + 1, _, _, _, _, rfl, y1, y2, y3, y4, by omega⟩
  · exact ⟨0, _, _, _, _, rfl, x6.trans (Ext.push _ _), get_push d5' _, get_push d6 _, last_get _ _, rfl⟩
theorem taken_okR {sl : Int} (s0 : 0 ≤ sl) (s1 : sl ≤ 500) (R m n : Nat) (l : List SH) (S : Store) (Q : DK) (X : XK) (h : Shp l) (hne : l ≠ [])
    (hq : ∀ t ∈ l, Hs sl t ∧ t.rank.toNat ≤ R) (hN : Fit m (sumF w2 l)) (hm : m ≤ 5000) (hc : sumF SH.cnt l ≤ 1000)
    (q : ∀ S', Ext S S' → Q (.tup [itD (takeS sl m l).1, .tup (dsL (takeS sl m l).2)]) S') : callZ PP (n + R + 3) f_soft_taken [.tup (dsL l), .int sl] S Q X := by
  have hl := len_nodes fun t ht => (h.tr t ht).ne
  obtain ⟨t, gt, kt⟩ := minAt_get hne
  obtain ⟨tm, htm, etm⟩ := minKey_mem hne
  have htl : t ∈ l := List.mem_of_getElem? gt
  have hcnt := mem_sum SH.cnt htl
  have hnod0 := mem_sum w2 htl
  have hnod1 := hN _ hnod0
  have hnod2 := tr_nodes (h.tr t htl)
  have hnod : t.nodes ≤ m := by unfold w2 at hnod2; omega
  have sn := shp_nodes h
  have ttr := h.tr t htl
  have hlt : minAt l < l.length := (List.getElem?_eq_some_iff.mp gt).1
  refine enter rfl rfl ?_
  show wpCs _ k_soft_taken_0 _ [some (.tup (dsL l)), some (.int sl), none, none, none, none, none, none, none, none, none, none] S
  bv_omega
  refine eqnil_pur (num_dat (show (D.tup (dsL l)).num = true from dsL_num l)) ?_
  rw [show (dsL l).isEmpty = false by cases l with | nil => exact absurd rfl hne | cons _ _ => rfl]
  show wpCs _ k_soft_taken_1 _ _ _
  bv_omega
  refine lcB_map (S1 := S) (fun _ => true) keyD1 (fun _ => trivial) (by rw [dsL_len]; show 0 + _ ≤ 1000000; omega) (fun d hdm => ?_) ?_
  · obtain ⟨t, ht, rfl⟩ := List.mem_map.mp hdm
    have hn := (h.tr t ht).ne
    cases t with
    | nil => cases hn
    | node r k row a b => exact ⟨_, rfl, fun acc => ⟨fun K hK => hK, fun _ K hK => hK⟩⟩
  rw [List.filter_eq_self.mpr (fun _ _ => rfl), List.nil_append, key_map fun t ht => (h.tr t ht).ne]
  have g2 := last_get S (Ob.lst ((l.map SH.key).map D.int))
  have x2 := Ext.push S (Ob.lst ((l.map SH.key).map D.int))
  generalize S ++ [Ob.lst ((l.map SH.key).map D.int)] = S2 at *
  bv_omega
  obtain ⟨d0, r0, e0, em⟩ := min_keys hne
  refine ⟨recv_l g2, ?_⟩
  refine min_go (by rw [g2, e0]) (by rw [← e0]; exact ord_ints _) ?_
  rw [em]
  refine index_go g2 (by rw [← etm]; exact List.mem_map_of_mem htm) ?_
  rw [show (l.map SH.key).findIdx (· == minKey l) = minAt l by unfold minAt; rw [List.findIdx_map]; rfl]
  bv_omega
  refine ixt_go rfl (by unfold dsL; rw [List.getElem?_map, gt]; rfl) ?_
  have etk : takeS sl m l = (t.row.headD (0, 0), l.take (minAt l) ++ leftS sl m t ++ l.drop (minAt l + 1)) := by
    unfold takeS
    rw [gt]
  rw [etk] at q
  have hshape : ∀ L, dsL (l.take (minAt l) ++ L ++ l.drop (minAt l + 1)) = (dsL l).take (minAt l) ++ dsL L ++ (dsL l).drop (minAt l + 1) := fun L => by unfold dsL; simp
  cases t with
  | nil => cases ttr.ne
  | node r k row a b =>
    have hrow : row ≠ [] := ttr.full.1
    cases row with
    | nil => exact absurd rfl hrow
    | cons i rest =>
      have hcl : (i :: rest).length + a.cnt + b.cnt ≤ 1000 := by
        have : (SH.node r k (i :: rest) a b).cnt = (i :: rest).length + a.cnt + b.cnt := rfl
        omega
      have hcl' : rest.length + 1 + a.cnt + b.cnt ≤ 1000 := by simpa using hcl
      have hr0 : 0 ≤ r := ttr.rb.1
      have hr1 : r ≤ 500 := ttr.rb.2.1
      have en : (SH.node r k (i :: rest) a b).nodes = a.nodes + b.nodes + 1 := rfl
      ac_rfl
      bv_omega
      bv_omega
      refine tuple_go (last_get _ _) ?_
      ac_rfl
      bv_omega
      refine len_go (last_get _ _) (by simp; omega) ?_
      ac_rfl
      refine ⟨Sm.of_le (by decide) (by decide), Sm.of_le (by omega) (by simp; omega), ?_⟩
      rw [List.length_map]
      rw [show n + R + 2 = (n + R + 1) + 1 by omega]
      refine want_of_ok (n + R + 1) r sl _ _ _ (by omega) (by omega) ?_
      rw [r_le]
      have fin : ∀ (T : SH) (S' : Store) (x11 : Option D), Ext S S' → leftS sl m (.node r k (i :: rest) a b) = [T] →
          wpCs (callZ PP (n + R + 1 + 1)) k_soft_taken_7 ⟨fun _ S => Q .non S, Q, fun _ _ => False, fun _ _ => False, X⟩ [some (.tup (dsL l)), some (.int sl), some (.ref S.length), some T.d, some (.int (minAt l)), some (.int r), some (.int k), some (.tup ((i :: rest).map itD)), some a.d, some b.d, some (itD i), x11] S' := by
        intro T S' x11 hx eT
        bv_omega
        rw [cut_to, show ((minAt l : Int) + 1) = ((minAt l + 1 : Nat) : Int) by omega, cut_from]
        refine ⟨by simp [dsL_len]; omega, by simp [dsL_len]; omega, ?_⟩
        rw [eT] at q
        have := q S' hx
        rw [hshape] at this
        exact this
      have el : leftS sl m (.node r k (i :: rest) a b) = (if 2 * (rest.length : Int) ≤ want r sl then (if (a.isNil && b.isNil) = true then (if rest.isEmpty = true then [] else [.node r k rest a b]) else [fillF sl m (.node r k rest a b)]) else [.node r k rest a b]) := rfl
      have x4 : Ext S (S2 ++ [Ob.lst (rest.map itD)]) := x2.trans (Ext.push _ _)
      have g11 := last_get S2 (Ob.lst (rest.map itD))
      generalize S2 ++ [Ob.lst (rest.map itD)] = S4 at x4 g11 ⊢
      cases hb : decide (2 * (rest.length : Int) ≤ want r sl) with
      | false =>
        exact fin (.node r k rest a b) _ _ x4 (by rw [el, if_neg (of_decide_eq_false hb)])
      | true =>
        rw [if_pos (of_decide_eq_true hb)] at el
        show wpCs _ k_soft_taken_6a0 _ _ _
        bv_omega
        have fil : (a.isNil && b.isNil) = false → ∀ Y : DK, Y (fillF sl m (.node r k rest a b)).d S4 → callZ PP (n + R + 1 + 1) f_filled [(SH.node r k rest a b).d, .int sl] S4 Y X := fun hab Y hY => by
          rw [show n + R + 1 + 1 = n + R + 2 by omega]
          exact filled_okR s0 s1 R m n r k rest a b S4 Y X (hq _ htl).2 (hq _ htl).1.rr (by show _ + _ + 1 ≤ m; omega) ttr.rb (by show rest.length + _ + _ ≤ 1000; omega) hY
        refine ne_nil a ?_
        cases ha : a.isNil with
        | false =>
          show wpCs _ k_soft_taken_6a0a0 _ _ _
          bv_omega
          refine fil (by rw [ha]; rfl) _ ?_
          exact fin _ _ _ x4 (by rw [el, ha]; rfl)
        | true =>
          ac_rfl
          refine ne_nil b ?_
          cases hb2 : b.isNil with
          | false =>
            show wpCs _ k_soft_taken_6a0a0 _ _ _
            bv_omega
            refine fil (by rw [ha, hb2]; rfl) _ ?_
            exact fin _ _ _ x4 (by rw [el, ha, hb2]; rfl)
          | true =>
            show wpCs _ k_soft_taken_6a0b0 _ _ _
            bv_omega
            refine lnil_eq (lst_of (get_push g11 _)) (last_lst2 S4 []) rfl (nums_snap _ (items_num rest)) (nums_lay (items_num rest)) ?_
            rw [ha, hb2] at el
            cases rest with
            | nil =>
              show wpCs _ k_soft_taken_6a0b0a0 _ _ _
              bv_omega
              rw [cut_to, show ((minAt l : Int) + 1) = ((minAt l + 1 : Nat) : Int) by omega, cut_from]
              refine ⟨by simp [dsL_len]; omega, ?_⟩
              have el2 : leftS sl m (.node r k [i] a b) = [] := el
              rw [el2] at q
              have := q (S4 ++ [Ob.lst []]) (x4.trans (Ext.push _ _))
              rw [hshape] at this
              simp only [show dsL [] = [] from rfl, List.append_nil] at this
              exact this
            | cons i2 rest2 =>
              exact fin _ _ _ (x4.trans (Ext.push _ _)) el
theorem put_okR {sl : Int} (s0 : 0 ≤ sl) (s1 : sl ≤ 500) (R m n : Nat) (hR : 12 ≤ R) (l : List SH) (i : It2) (k : Nat) (lo hi : Int) (S : Store) (Q : DK) (X : XK) (g : Grn l k lo hi) (hq : ∀ t ∈ l, Hs sl t) (hkb : kB i.1) (hi2 : ∀ j ∈ itemsL l, j.2 ≠ i.2) (hk : Fit m (k + 1)) (hk2 : k ≤ 900) (hm : m ≤ 5000)
    (q : ∀ S', Ext S S' → Q (.tup (dsL (joinS sl m l (oneS i)))) S') : callZ PP (n + R + 5) f_soft_put [.tup (dsL l), itD i, .int sl] S Q X := by
  have g1 := Grn.one i
  have n1 := g.nodes
  have n2 := g1.nodes
  have w1 := g.w
  have w2 := g1.w
  have c1 := g.c
  have c2 := g1.c
  refine enter rfl rfl ?_
  show wpCs _ k_soft_put_0 _ [some (.tup (dsL l)), some (.tup [.int i.1, .int i.2]), some (.int sl)] S
  bv_omega
  refine joined_okR s0 s1 R m n hR l (oneS i) S _ _ g.shp g1.shp (fun a ha b hb => ?_) (fun t ht => by
    rcases List.mem_append.mp ht with z | z
    · exact hq t z
    · exact (Kept.one s0 hkb).hs t z) (hk.le (Nat.le_refl _) (by rw [sumF_app]; omega)) (by omega) (by rw [sumF_app]; omega) (by rw [sumF_app]; omega) q
  have h2 : b = i := by simpa [itemsL, oneS, SH.items] using hb
  rw [h2]
  exact hi2 a ha
end Mn
namespace Mn
open PySem
def itOk (i : It2) : Prop := kB i.1 ∧ 0 ≤ i.2 ∧ i.2 ≤ 1000000
structure Sf (sl : Int) (l : List SH) (k : Nat) (lo hi : Int) : Prop where
  g : Grn l k lo hi
  K : Kept sl l
  ok : ∀ i ∈ itemsL l, itOk i
  nd : ((itemsL l).map Prod.snd).Nodup
theorem Sf.ne {sl : Int} {l : List SH} {k : Nat} {lo hi : Int} (h : Sf sl l k lo hi) : ∀ t ∈ l, t.isNil = false := fun t ht => (h.g.shp.tr t ht).ne
theorem Sf.nod {sl : Int} {l : List SH} {k : Nat} {lo hi : Int} (h : Sf sl l k lo hi) : nodesL l ≤ k := h.g.nodes
theorem Sf.its {sl : Int} {l : List SH} {k : Nat} {lo hi : Int} (h : Sf sl l k lo hi) : (itemsL l).length ≤ k := by rw [itemsL_len]; exact h.g.c
theorem Sf.join {sl : Int} {m : Nat} {a c : List SH} {k1 k2 : Nat} {lo mid mid2 hi : Int} (h1 : Sf sl a k1 lo mid) (h2 : Sf sl c k2 mid2 hi) (hmid : mid ≤ mid2) (hl : lo ≤ mid2) (hh : mid ≤ hi) (hm : Fit m (k1 + k2)) (hk : k1 + k2 < 4000) : Sf sl (joinS sl m a c) (k1 + k2) lo hi ∧ (itemsL (joinS sl m a c)).Perm (itemsL a ++ itemsL c) := by
  have w1 := h1.g.w
  have w2 := h2.g.w
  have hN : Fit m (sumF Mn.w2 (a ++ c)) := hm.le (Nat.le_refl _) (by rw [sumF_app]; omega)
  have pm : (itemsL (joinS sl m a c)).Perm (itemsL a ++ itemsL c) := by
    rw [← itemsL_app]
    exact join_perm h1.g.shp h2.g.shp hN (by rw [sumF_app]; omega)
  refine ⟨⟨h1.g.join h2.g hm (Int.le_refl _) hl hh (Int.le_refl _), h1.K.join h2.K h1.g.shp h2.g.shp hN, fun i hi => ?_, ?_⟩, pm⟩
  · rcases List.mem_append.mp (pm.mem_iff.mp hi) with z | z
    · exact h1.ok i z
    · exact h2.ok i z
  · refine ((pm.map Prod.snd).nodup_iff).mpr ?_
    rw [List.map_append]
    refine List.nodup_append.mpr ⟨h1.nd, h2.nd, fun x hx y hy e => ?_⟩
    obtain ⟨p, hp, rfl⟩ := List.mem_map.mp hx
    obtain ⟨q, hq, rfl⟩ := List.mem_map.mp hy
    have := (h1.g.t p hp).2
    have := (h2.g.t q hq).1
    omega
theorem Sf.one {sl : Int} (s0 : 0 ≤ sl) {i : It2} (ok : itOk i) : Sf sl (oneS i) 1 i.2 (i.2 + 1) := by
  have e : itemsL (oneS i) = [i] := by simp [itemsL, oneS, SH.items]
  refine ⟨Grn.one i, Kept.one s0 ok.1, fun j hj => ?_, ?_⟩
  · rw [e] at hj
    rw [List.mem_singleton.mp hj]
    exact ok
  · rw [e]
    simp
theorem Sf.put {sl : Int} {m : Nat} {l : List SH} {k : Nat} {lo hi : Int} (s0 : 0 ≤ sl) (h : Sf sl l k lo hi) {i : It2} (e : i.2 = hi) (ok : itOk i) (hl : lo ≤ hi) (hm : Fit m (k + 1)) (hk : k + 1 < 4000) : Sf sl (joinS sl m l (oneS i)) (k + 1) lo (hi + 1) ∧ (itemsL (joinS sl m l (oneS i))).Perm (itemsL l ++ [i]) := by
  have := h.join (m := m) (Sf.one s0 ok) (by omega) (by omega) (by omega) hm hk
  rw [e] at this
  have e : itemsL (oneS i) = [i] := by simp [itemsL, oneS, SH.items]
  rw [e] at this
  exact this
theorem Sf.take {sl : Int} {m : Nat} {l : List SH} {k : Nat} {lo hi : Int} (h : Sf sl l k lo hi) (hm : Fit m k) (hne : l ≠ []) : Sf sl (takeS sl m l).2 k lo hi ∧ ((takeS sl m l).1 :: itemsL (takeS sl m l).2).Perm (itemsL l) := by
  have pm := take_perm (sl := sl) (m := m) h.g.shp hne
  refine ⟨⟨h.g.take hm hne, h.K.take h.g hm hne, fun i hi => h.ok i (pm.mem_iff.mp (List.mem_cons_of_mem _ hi)), ?_⟩, pm⟩
  have := ((pm.map Prod.snd).nodup_iff).mpr h.nd
  rw [List.map_cons, List.nodup_cons] at this
  exact this.2
theorem Sf.nil (sl : Int) (lo hi : Int) : Sf sl [] 0 lo hi := ⟨Grn.nil lo hi, Kept.nil sl, fun i hi => (nomatch hi), List.nodup_nil⟩
theorem Sf.mono {sl : Int} {l : List SH} {k k' : Nat} {lo hi lo' hi' : Int} (h : Sf sl l k lo hi) (hk : k ≤ k') (h1 : lo' ≤ lo) (h2 : hi ≤ hi') : Sf sl l k' lo' hi' := ⟨h.g.mono hk h1 h2, h.K, h.ok, h.nd⟩
theorem fit180 {W : Nat} (h : W ≤ 180) : Fit 129 W := fit_of (B := 7) (by omega)
theorem Sf.rk {sl : Int} {l : List SH} {k : Nat} {lo hi : Int} (h : Sf sl l k lo hi) (hk : k ≤ 180) : ∀ t ∈ l, Hs sl t ∧ t.rank.toNat ≤ 12 := fun t ht => by
  refine ⟨h.K.hs t ht, ?_⟩
  have h1 := mem_sum w2 ht
  have h2 := h.g.w
  have : 2 ^ t.rank.toNat < 2 ^ 12 := by show w2 t < 4096; omega
  exact Nat.le_of_lt ((Nat.pow_lt_pow_iff_right (by decide : 1 < 2)).mp this)
theorem sput_ok {sl : Int} (s0 : 0 ≤ sl) (s1 : sl ≤ 8) {N : Nat} (hN : 20 ≤ N) {l : List SH} {k : Nat} {lo hi : Int} (h : Sf sl l k lo hi) (hk : k + 1 ≤ 180) {i : It2} (e : i.2 = hi) (ok : itOk i) {S : Store} {Q : DK} {X : XK}
    (q : ∀ S', Ext S S' → Q (.tup (dsL (joinS sl 129 l (oneS i)))) S') : callZ PP N f_soft_put [.tup (dsL l), itD i, .int sl] S Q X := by
  refine lift (n := 0 + 12 + 5) (by omega) ?_
  exact put_okR s0 (by omega) 12 129 0 (Nat.le_refl _) l i k lo hi S Q X h.g h.K.hs ok.1 (fun j hj => by have := (h.g.t j hj).2; omega) (fit180 hk) (by omega) (by omega) q
theorem stake_ok {sl : Int} (s0 : 0 ≤ sl) (s1 : sl ≤ 8) {N : Nat} (hN : 20 ≤ N) {l : List SH} {k : Nat} {lo hi : Int} (h : Sf sl l k lo hi) (hk : k ≤ 180) (hne : l ≠ []) {S : Store} {Q : DK} {X : XK}
    (q : ∀ S', Ext S S' → Q (.tup [itD (takeS sl 129 l).1, .tup (dsL (takeS sl 129 l).2)]) S') : callZ PP N f_soft_taken [.tup (dsL l), .int sl] S Q X := by
  refine lift (n := 0 + 12 + 3) (by omega) ?_
  exact taken_okR s0 (by omega) 12 129 0 l S Q X h.g.shp hne (h.rk hk) (fit180 (by have := h.g.w; omega)) (by omega) (by have := h.g.c; omega) q
theorem prs_key {sl : Int} : ∀ {t : SH}, Hs sl t → ∀ {q : Int}, (t.isNil = false → q ≤ t.key) → ∀ p ∈ t.prs, q ≤ p.2 ∧ p.1.1 ≤ p.2 ∧ kB p.2
  | .nil, _, q, _, p, hp => nomatch hp
  | .node r k row a b, h, q, hq, p, hp => by
    obtain ⟨h1, ⟨la, lb⟩, _, ha, hb⟩ := h
    have hk : q ≤ k := hq rfl
    rcases List.mem_append.mp (show p ∈ row.map (fun i => (i, k)) ++ (a.prs ++ b.prs) from hp) with z | z
    · obtain ⟨i, hi, rfl⟩ := List.mem_map.mp z
      exact ⟨hk, h1.le i hi, h1.kb⟩
    · rcases List.mem_append.mp z with z | z
      · exact prs_key ha (fun e => Int.le_trans hk (la e)) p z
      · exact prs_key hb (fun e => Int.le_trans hk (lb e)) p z
theorem prs_low {sl : Int} : ∀ {t : SH}, Hs sl t → (t.isNil = false → t.rank ≤ sl) → ∀ p ∈ t.prs, p.1.1 = p.2
  | .nil, _, _, p, hp => nomatch hp
  | .node r k row a b, h, hr, p, hp => by
    obtain ⟨h1, _, ⟨ra, rb⟩, ha, hb⟩ := h
    have hr : r ≤ sl := hr rfl
    rcases List.mem_append.mp (show p ∈ row.map (fun i => (i, k)) ++ (a.prs ++ b.prs) from hp) with z | z
    · obtain ⟨i, hi, rfl⟩ := List.mem_map.mp z
      exact (h1.low hr).2 i hi
    · rcases List.mem_append.mp z with z | z
      · exact prs_low ha (fun e => by have := ra e; omega) p z
      · exact prs_low hb (fun e => by have := rb e; omega) p z
theorem mem_prsL {l : List SH} {p : Pr} : p ∈ prsL l ↔ ∃ t ∈ l, p ∈ t.prs := by
  unfold prsL
  rw [List.mem_flatMap]
theorem minKey_le {l : List SH} : ∀ t ∈ l, minKey l ≤ t.key := by
  cases l with
  | nil => exact fun t h => nomatch h
  | cons u r =>
    obtain ⟨_, h1, h2⟩ := minI_spec (r.map SH.key) u.key
    intro t ht
    rcases List.mem_cons.mp ht with rfl | z
    · exact h1
    · exact h2 _ (List.mem_map_of_mem z)
theorem Sf.least {sl : Int} {m : Nat} {l : List SH} {k : Nat} {lo hi : Int} (h : Sf sl l k lo hi) (hne : l ≠ []) : ∃ q : Int, ((takeS sl m l).1, q) ∈ prsL l ∧ (∀ p ∈ prsL l, q ≤ p.2) ∧ (takeS sl m l).1.1 ≤ q ∧ kB q := by
  obtain ⟨t, gt, ek⟩ := minAt_get hne
  have htl : t ∈ l := List.mem_of_getElem? gt
  have etk : (takeS sl m l).1 = t.row.headD (0, 0) := by
    unfold takeS
    rw [gt]
  have hin : ((takeS sl m l).1, t.key) ∈ t.prs := by
    rw [etk]
    have tr := h.g.shp.tr t htl
    cases t with
    | nil => cases tr.ne
    | node r k row a b =>
      have hrow : row ≠ [] := tr.full.1
      cases row with
      | nil => exact absurd rfl hrow
      | cons i row => exact List.mem_append_left _ List.mem_cons_self
  have hh := prs_key (h.K.hs t htl) (q := t.key) (fun _ => Int.le_refl _) _ hin
  refine ⟨t.key, mem_prsL.mpr ⟨t, htl, hin⟩, fun p hp => ?_, hh.2.1, hh.2.2⟩
  obtain ⟨u, hu, hp⟩ := mem_prsL.mp hp
  exact (prs_key (h.K.hs u hu) (q := t.key) (fun _ => by rw [ek]; exact minKey_le u hu) p hp).1
theorem Sf.sound {sl : Int} {l : List SH} {k : Nat} {lo hi : Int} (h : Sf sl l k lo hi) (s0 : 0 ≤ sl) (hk : k < 2 ^ (sl.toNat + 1)) : ∀ p ∈ prsL l, p.1.1 = p.2 := fun p hp => by
  obtain ⟨t, ht, hp⟩ := mem_prsL.mp hp
  refine prs_low (h.K.hs t ht) (fun _ => ?_) p hp
  have h1 := mem_sum w2 ht
  have h2 := h.g.w
  have : 2 ^ t.rank.toNat < 2 ^ (sl.toNat + 1) := by show w2 t < _; omega
  have := (Nat.pow_lt_pow_iff_right (by decide : 1 < 2)).mp this
  omega
theorem Sf.takenLow {sl : Int} {m : Nat} {l : List SH} {k : Nat} {lo hi : Int} (h : Sf sl l k lo hi) (s0 : 0 ≤ sl) (hk : k < 2 ^ (sl.toNat + 1)) (hne : l ≠ []) : ∀ i ∈ itemsL l, (takeS sl m l).1.1 ≤ i.1 := fun i hi => by
  obtain ⟨q, _, h2, h3, _⟩ := h.least (m := m) hne
  rw [← prsL_items] at hi
  obtain ⟨p, hp, rfl⟩ := List.mem_map.mp hi
  have := h2 p hp
  have := h.sound s0 hk p hp
  omega
theorem mayF_nil {n sl : Int} (s0 : 0 ≤ sl) (h0 : 0 ≤ n) (h : n < 2 ^ (sl.toNat + 1)) : ∀ K : Nat, mayF n sl K = 0
  | 0 => rfl
  | K + 1 => by
    have ih := mayF_nil s0 h0 h K
    show mayF n sl K + 3 * want (sl + 1 + K) sl * (n / 2 ^ (sl + 1 + K).toNat) = 0
    have e : n / 2 ^ (sl + 1 + K).toNat = 0 := by
      refine Int.ediv_eq_zero_of_lt h0 (Int.lt_of_lt_of_le h ?_)
      have : (2 : Nat) ^ (sl.toNat + 1) ≤ 2 ^ (sl + 1 + (K : Int)).toNat := Nat.pow_le_pow_right (by decide) (by omega)
      exact_mod_cast this
    rw [ih, e, Int.mul_zero]
    rfl
theorem frs_prD : ∀ l : List Pr, frs? (l.map prD) = some l
  | [] => rfl
  | p :: l => by
    show (frs? (l.map prD)).map (((p.1.1, p.1.2), p.2) :: ·) = _
    rw [frs_prD l]
    rfl
theorem lookup_nd : ∀ {l : List Pr} {p : Pr}, (l.map Prod.fst).Nodup → p ∈ l → l.lookup p.1 = some p.2
  | [], _, _, h => nomatch h
  | q :: l, p, nd, h => by
    rw [List.map_cons, List.nodup_cons] at nd
    rcases List.mem_cons.mp h with rfl | z
    · rw [List.lookup_cons, beq_self_eq_true]
    · have : (p.1 == q.1) = false := by
        refine beq_eq_false_iff_ne.mpr fun e => nd.1 ?_
        rw [← e]
        exact List.mem_map_of_mem z
      rw [List.lookup_cons, this]
      exact lookup_nd nd.2 z
theorem sortPr_mem {l : List Pr} {p : Pr} : p ∈ sortPr l ↔ p ∈ l := (List.mergeSort_perm _ _).mem_iff
theorem Sf.ndPr {sl : Int} {l : List SH} {k : Nat} {lo hi : Int} (h : Sf sl l k lo hi) : ((sortPr (prsL l)).map Prod.fst).Nodup := by
  have pm : ((sortPr (prsL l)).map Prod.fst).Perm (itemsL l) := by
    rw [← prsL_items]
    exact (List.mergeSort_perm _ _).map _
  refine pm.nodup_iff.mpr ?_
  exact List.Pairwise.of_map Prod.snd (fun a b ne e => ne (congrArg Prod.snd e)) h.nd
theorem dictF_go {S : Store} {n : Nat} {l : List Pr} {Q : DK} (h : S[n]? = some (.lst (l.map prD))) (nd : (l.map Prod.fst).Nodup) (hl : l.length ≤ 1000000) (q : Q (.ref S.length) (S ++ [.fdi l])) : dictFD (.ref n) S Q := by
  unfold dictFD
  rw [lq_of h]
  show (match frs? (l.map prD) with | some l => _ | none => False)
  rw [frs_prD]
  exact ⟨nd, hl, q⟩
theorem fdi_of {S : Store} {n : Nat} {l : List Pr} (h : S[n]? = some (.fdi l)) : fdi? S (.ref n) = some l := by
  unfold fdi?
  dsimp only
  rw [h]
theorem ixF_go {S : Store} {n : Nat} {l : List Pr} {i : It2} {v : Int} {Q : DK} (h : S[n]? = some (.fdi l)) (e : l.lookup i = some v) (q : Q (.int v) S) : ixFD (.ref n) (itD i) S Q := by
  unfold ixFD
  rw [fdi_of h]
  show (match l.lookup (i.1, i.2) with | some v => Q (.int v) S | none => False)
  rw [show (i.1, i.2) = i from rfl, e]
  exact q
theorem minF_go {S : Store} {n : Nat} {l : List Pr} {Q : DK} (h : S[n]? = some (.fdi l)) (hne : l ≠ []) (q : ∀ m ∈ l.map Prod.snd, Q (.int m) S) : minFD (.ref n) S Q := by
  unfold minFD
  rw [fdi_of h]
  exact ⟨hne, fun m hm _ => q m hm⟩
end Mn
namespace Mn
open PySem
theorem smT : Sm 10 := Sm.of_le (by decide) (by decide)
theorem mins_go {S : Store} {n : Nat} {is : List Int} {Q : DK} (h : S[n]? = some (.lst (is.map D.int))) (hne : is ≠ []) (q : ∀ m ∈ is, Q (.int m) S) : bt .min1 [.ref n] S Q := by
  cases is with
  | nil => exact absurd rfl hne
  | cons a r =>
    refine min_go (d := .int a) (l := r.map D.int) h (ord_ints (a :: r)) ?_
    rw [minL_int]
    obtain ⟨h1, _, _⟩ := minI_spec r a
    rcases h1 with e | e
    · rw [e]
      exact q a List.mem_cons_self
    · exact q _ (List.mem_cons_of_mem _ e)
def pF : D → Bool
  | .tup [.tup [.int a, _], .int k] => a == k
  | _ => false
def fF : D → D
  | .tup [_, x] => x
  | d => d
theorem flt_prD : ∀ l : List Pr, ((l.map prD).filter pF).map fF = ((l.filter fun p => p.1.1 == p.2).map Prod.snd).map D.int
  | [] => rfl
  | p :: l => by
    have ih := flt_prD l
    have e : pF (prD p) = (p.1.1 == p.2) := rfl
    rw [List.map_cons, List.filter_cons, List.filter_cons, e]
    cases p.1.1 == p.2 with
    | true =>
      rw [if_pos rfl, if_pos rfl, List.map_cons, List.map_cons, List.map_cons, ih]
      rfl
    | false =>
      rw [if_neg Bool.false_ne_true, if_neg Bool.false_ne_true]
      exact ih
theorem gets_fr {s A : Nat} {S S' : Store} {o : Ob} (f : Fr s S S') (h : S[A]? = some o) (n : A ≠ s) : S'[A]? = some o := by
  rw [f.2 A (get_lt h) n]
  exact h
theorem pw7 {sl : Int} (s0 : 1 ≤ sl) (s1 : sl ≤ 6) : (2 : Nat) ^ (sl.toNat + 1) ≤ 128 := by
  have : (2 : Nat) ^ (sl.toNat + 1) ≤ 2 ^ 7 := Nat.pow_le_pow_right (by decide) (by omega)
  exact this
theorem phase2 (n : Nat) {s A : Nat} {L : List D} {sl : Int} (s0 : 1 ≤ sl) (s1 : sl ≤ 6) {kk : Int} {S : Store} {K : Ends} {x0 x1 x5 x6 x7 x8 x9 x10 x11 x12 : Option D} (sr : Src S s kk) (gA : S[A]? = some (.lst L)) (ne : A ≠ s) (k0 : 0 ≤ kk) (k1 : kk ≤ 5000)
    (hn : ∀ S' y4 y5 y7 y10 y11 y12, S'[A]? = some (.lst L) → K.nx [x0, x1, some (.ref s), some (.int sl), y4, y5, x6, y7, x8, x9, y10, y11, y12] S') :
    wpCs (callZ PP (n + 59)) k_law_0a5 K [x0, x1, some (.ref s), some (.int sl), some (.tup []), x5, x6, x7, x8, x9, x10, x11, x12] S := by
  bv_omega
  bv_omega
  refine rng_go (by decide) (by decide) (by omega) (by omega) ?_
  refine forB_at _ (fun i ρ S' => i ≤ 6 ∧ S' = S ∧ ∃ y11, ρ = [x0, x1, some (.ref s), some (.int sl), some (.tup []), x5, x6, x7, x8, x9, some (.int ((2 ^ i : Nat) : Int)), y11, x12]) (fun _ _ _ _ => trivial) ?_ ?_ ⟨by omega, rfl, _, rfl⟩
  · rintro ρ S' ⟨_, rfl, y11, rfl⟩
    rw [show (rngL 0 sl).length = sl.toNat by unfold rngL; simp]
    have p7 := pw7 s0 s1
    have pp : (2 : Nat) ^ (sl.toNat + 1) = 2 * 2 ^ sl.toNat := by rw [Nat.pow_succ]; omega
    have p1 : 0 < (2 : Nat) ^ sl.toNat := Nat.pow_pos (by decide)
    generalize hF : (2 : Nat) ^ sl.toNat = F at *
    ac_rfl
    bv_omega
    refine ⟨Sm.of_le (by decide) (by decide), Sm.of_le (by omega) (by omega), ?_⟩
    ac_rfl
    obtain ⟨J, hJ⟩ : ∃ J : Nat, (2 * (F : Int) - 1) = (J : Int) := ⟨2 * F - 1, by omega⟩
    rw [hJ]
    have hJ1 : J < 2 ^ (sl.toNat + 1) := by omega
    bv_omega
    refine may_slip_ok (n + 57) J sl S' _ _ (by omega) (by omega) (by omega) (by omega) ?_
    rw [mayF_nil (by omega) (by omega) (by exact_mod_cast hJ1) 12]
    ac_rfl
    show wpCs _ k_law_0a9 _ _ _
    bv_omega
    bv_omega
    refine rng_go (by decide) (by decide) (by omega) (by omega) ?_
    refine forB_at _ (fun j ρ S2 => j ≤ 128 ∧ ∃ Bsh kk' y5, ρ = [x0, x1, some (.ref s), some (.int sl), some (.tup (dsL Bsh)), y5, x6, x7, x8, x9, some (.int (J : Int)), y11, x12] ∧ Src S2 s kk' ∧ S2[A]? = some (.lst L) ∧ Sf sl Bsh j 0 j ∧ (∀ i ∈ itemsL Bsh, 0 ≤ i.1) ∧ kk ≤ kk' ∧ kk' ≤ kk + j) (fun _ _ _ _ => trivial) ?_ ?_ ⟨by omega, [], kk, _, rfl, sr, gA, Sf.nil sl 0 _, fun i hi => (nomatch hi), by omega, by omega⟩
    · rintro ρ S2 ⟨_, Bsh, kk', y5, rfl, sr2, gA2, hB, hpos, e1, e2⟩
      rw [show (rngL 0 (J : Int)).length = J by unfold rngL; simp] at hB
      ac_rfl
      bv_omega
      bv_omega
      refine whB_at (fun f ρ S3 => ∃ Csh bf y7, ρ = [x0, x1, some (.ref s), some (.int sl), some (.tup (dsL Csh)), y5, x6, y7, x8, x9, some (.int (J : Int)), y11, some (.int bf)] ∧ S3[A]? = some (.lst L) ∧ Sf sl Csh J 0 J ∧ (∀ i ∈ itemsL Csh, bf ≤ i.1) ∧ (itemsL Csh).length = f) ?_ (itemsL Bsh).length ⟨Bsh, -1, _, rfl, gA2, hB, fun i hi => by have := hpos i hi; omega, rfl⟩
      rintro f ρ S3 ⟨Csh, bf, y7, rfl, gA3, hC, hlow, hf⟩ N2 hN2
      ac_rfl
      refine nenil_pur (num_dat (dsL_num Csh)) ?_
      cases Csh with
      | nil =>
        (ac_rfl; iterate 2 ((try (simp only [Bool.not_true])); ac_rfl))
        exact hn _ _ _ _ _ _ _ gA3
      | cons t Csh =>
        have hne : (t :: Csh) ≠ [] := List.cons_ne_nil _ _
        have hem : (dsL (t :: Csh)).isEmpty = false := rfl
        rw [hem]
        clear hem
        generalize t :: Csh = B1 at *
        (ac_rfl; iterate 2 ((try (simp only [Bool.not_false])); ac_rfl))
        show wpCs _ k_law_0a12a0 _ _ _
        bv_omega
        refine stake_ok (by omega) (by omega) (by omega) hC (by omega) hne fun S7 x7 => ?_
        obtain ⟨hB3, pm4⟩ := hC.take (m := 129) (fit180 (by omega)) hne
        have lw := hC.takenLow (m := 129) (by omega) hJ1 hne
        generalize takeS sl 129 B1 = tk at *
        obtain ⟨it, B3⟩ := tk
        dsimp only at *
        have hit : it ∈ itemsL B1 := pm4.mem_iff.mp List.mem_cons_self
        ac_rfl
        bv_omega
        rw [show itD it = D.tup [D.int it.1, D.int it.2] from rfl]
        ac_rfl
        rw [decide_eq_false (show ¬ it.1 < bf by have := hlow it hit; omega)]
        ac_rfl
        show wpCs _ k_law_0a12a2 _ _ _
        bv_omega
        refine hN2 _ _ _ ?_ ⟨B3, it.1, _, rfl, x7.get gA3, hB3, fun i hi => lw i (pm4.mem_iff.mp (List.mem_cons_of_mem _ hi)), rfl⟩
        have := pm4.length_eq
        rw [List.length_cons] at this
        omega
    · rintro j d hd ρ S2 ⟨hj, Bsh, kk', y5, rfl, sr2, gA2, hB, hpos, e1, e2⟩ N2 hN2
      obtain ⟨rfl, hj2⟩ := rng_get hd
      refine ⟨_, rfl, ?_⟩
      rw [Int.zero_add]
      show wpCs _ k_law_0a10a0 _ _ _
      bv_omega
      refine lift (n := 0 + 2) (by omega) ?_
      refine take_src 0 kk' 40 s S2 _ _ sr2 (by omega) (by omega) (by decide) (by decide) fun t S3 t0 t1 _ fr3 sr3 => ?_
      have gA3 := gets_fr fr3 gA2 ne
      ac_rfl
      have iok : itOk (t, (j : Int)) := ⟨⟨by show (-1000000000000 : Int) ≤ t; omega, by show t ≤ 1000000000000; omega⟩, by show 0 ≤ (j : Int); omega, by show (j : Int) ≤ 1000000; omega⟩
      refine sput_ok (by omega) (by omega) (by omega) hB (by omega) (i := (t, (j : Int))) rfl iok fun S4 x4 => ?_
      obtain ⟨hB2, pm2⟩ := hB.put (m := 129) (by omega) (i := (t, (j : Int))) rfl iok (by omega) (fit180 (by omega)) (by omega)
      ac_rfl
      refine hN2 _ _ ⟨by omega, _, _, _, rfl, sr3.ext x4, x4.get gA3, hB2, fun i hi => ?_, by omega, by omega⟩
      rcases List.mem_append.mp (pm2.mem_iff.mp hi) with z | z
      · exact hpos i z
      · rw [List.mem_singleton.mp z]
        exact t0
  · rintro i d hd ρ S' ⟨hi, rfl, y11, rfl⟩ N hN
    obtain ⟨rfl, hi2⟩ := rng_get hd
    refine ⟨_, rfl, ?_⟩
    show wpCs _ k_law_0a6a0 _ _ _
    have p7 : (2 : Nat) ^ i ≤ 2 ^ 6 := Nat.pow_le_pow_right (by decide) hi
    have p7 : (2 : Nat) ^ i ≤ 64 := p7
    have p8 : (0 : Int) ≤ ((2 ^ i : Nat) : Int) := Int.natCast_nonneg _
    have p9 : ((2 ^ i : Nat) : Int) ≤ ((64 : Nat) : Int) := Int.ofNat_le.mpr p7
    bv_omega
    refine ⟨Sm.of_le (by decide) (by decide), Sm.of_le (Int.le_trans (by decide) p8) (Int.le_trans p9 (by decide)), ?_⟩
    ac_rfl
    rw [show (2 : Int) * ((2 ^ i : Nat) : Int) = ((2 ^ (i + 1) : Nat) : Int) by rw [Nat.pow_succ, Nat.mul_comm, Int.natCast_mul]; rfl]
    exact hN _ _ ⟨by omega, rfl, _, rfl⟩
theorem law_ok (n : Nat) (ns : List Int) (hn : ns.length ≤ 63) : callZ PP (n + 60) f_law [.fl (ns.map D.int)] [] (fun d _ => d = .bl true) noX := by
  refine enter rfl rfl ?_
  show wpCs (callZ PP (n + 59)) k_law_0 _ [some (.fl (ns.map D.int)), none, none, none, none, none, none, none, none, none, none, none, none] []
  bv_omega
  refine addf_goT (last_get [] _) (by simp; omega) ?_
  refine sll_go (last_get _ _) ?_
  refine it_lst (last_get _ _) ?_
  generalize hL : cut ([D.int 0] ++ ns.map D.int) none (some 5) = L
  have hcell : ∀ d ∈ L, ∃ c, d = .int c := by
    intro d hd
    rw [← hL, show (some (5 : Int)) = some ((5 : Nat) : Int) from rfl, cut_to] at hd
    have := List.mem_of_mem_take hd
    simp at this
    rcases this with h | ⟨c, _, h⟩
    · exact ⟨_, h⟩
    · exact ⟨c, h.symm⟩
  generalize hA : (([Ob.lst [D.int 0]] : Store) ++ [Ob.lst ([D.int 0] ++ ns.map D.int)]).length = A
  have g0 : (([Ob.lst [D.int 0]] : Store) ++ [Ob.lst ([D.int 0] ++ ns.map D.int)] ++ [Ob.lst L])[A]? = some (.lst L) := by rw [← hA]; exact last_get _ _
  generalize (([Ob.lst [D.int 0]] : Store) ++ [Ob.lst ([D.int 0] ++ ns.map D.int)] ++ [Ob.lst L]) = S0 at g0 ⊢
  refine forB_at L (fun i ρ S => ∃ x1 x2 x3 x4 x5 x6 x7 x8 x9 x10 x11 x12, ρ = [some (.fl (ns.map D.int)), x1, x2, x3, x4, x5, x6, x7, x8, x9, x10, x11, x12] ∧ S[A]? = some (.lst L)) ?_ ?_ ?_ ⟨_, _, _, _, _, _, _, _, _, _, _, _, rfl, g0⟩
  · rintro i ρ S ⟨x1, x2, x3, x4, x5, x6, x7, x8, x9, x10, x11, x12, rfl, g⟩
    exact lst_of g
  · rintro ρ S ⟨x1, x2, x3, x4, x5, x6, x7, x8, x9, x10, x11, x12, rfl, g⟩
    ac_rfl
    bv_omega
  · rintro i d hd ρ S ⟨x1, x2, x3, x4, x5, x6, x7, x8, x9, x10, x11, x12, rfl, g⟩ N hN
    obtain ⟨cc, rfl⟩ := hcell d (List.mem_of_getElem? hd)
    refine ⟨_, rfl, ?_⟩
    bv_omega
    refine source_ok (n + 58) cc S _ _ ?_
    have sr0 : Src (S ++ [Ob.lst [D.int cc, .int cc, .int 0, .int 0]]) S.length 0 := ⟨cc, cc, 0, last_get _ _⟩
    have gA := get_push g [Ob.lst [D.int cc, .int cc, .int 0, .int 0]]
    have ne : A ≠ S.length := Nat.ne_of_lt (get_lt g)
    generalize S ++ [Ob.lst [D.int cc, .int cc, .int 0, .int 0]] = S1 at *
    generalize S.length = s at *
    ac_rfl
    bv_omega
    refine lift (n := 0 + 2) (by omega) ?_
    refine take_src 0 0 6 s S1 _ _ sr0 (by decide) (by decide) (by decide) (by decide) fun t6 S2 t0 t1 _ fr2 sr2 => ?_
    have gA2 := gets_fr fr2 gA ne
    ac_rfl
    obtain ⟨sl, esl, s0, s1⟩ : ∃ sl : Int, 1 + t6 = sl ∧ 1 ≤ sl ∧ sl ≤ 6 := ⟨_, rfl, by omega, by omega⟩
    rw [esl]
    bv_omega
    bv_omega
    refine lift (n := 0 + 2) (by omega) ?_
    refine take_src 0 _ 91 s S2 _ _ sr2 (by decide) (by decide) (by decide) (by decide) fun t91 S3 u0 u1 _ fr3 sr3 => ?_
    have gA3 := gets_fr fr3 gA2 ne
    ac_rfl
    have gt := last_get S3 (Ob.lst [D.int t91, .int 80])
    have sr4 := sr3.push [Ob.lst [D.int t91, .int 80]]
    have gA4 := get_push gA3 [Ob.lst [D.int t91, .int 80]]
    have hts : S3.length ≠ s := by have := sr3.lt; omega
    generalize S3 ++ [Ob.lst [D.int t91, .int 80]] = S4 at *
    refine lift (n := 0 + 3) (by omega) ?_
    refine one_of_ok 0 _ s _ _ _ _ _ sr4 (by decide) (by decide) (lst_of gt) hts nle nle fun d S5 hd5 le5 fr5 sr5 => ?_
    have gA5 := gets_fr fr5 gA4 ne
    obtain ⟨J, rfl, J1⟩ : ∃ J : Nat, d = .int (J : Int) ∧ J ≤ 90 := by
      simp only [List.mem_cons, List.not_mem_nil, or_false] at hd5
      rcases hd5 with rfl | rfl
      · exact ⟨t91.toNat, by rw [Int.toNat_of_nonneg u0], by omega⟩
      · exact ⟨80, rfl, by omega⟩
    ac_rfl
    refine rng_go (by decide) (by decide) (by omega) (by omega) ?_
    refine forB_at _ (fun j ρ S6 => j ≤ 90 ∧ ∃ Bsh kk' y5, ρ = [some (.fl (ns.map D.int)), some (.int cc), some (.ref s), some (.int sl), some (.tup (dsL Bsh)), y5, x6, x7, x8, x9, x10, x11, x12] ∧ Src S6 s kk' ∧ S6[A]? = some (.lst L) ∧ Sf sl Bsh j 0 j ∧ 0 ≤ kk' ∧ kk' ≤ 10 + j) (fun _ _ _ _ => trivial) ?_ ?_ ⟨by omega, [], _, _, rfl, sr5, gA5, Sf.nil sl 0 _, by decide, by decide⟩
    · rintro ρ S6 ⟨_, Bsh, kk', y5, rfl, sr6, gA6, hB, e1, e2⟩
      rw [show (rngL 0 (J : Int)).length = J by unfold rngL; simp] at hB e2
      ac_rfl
      bv_omega
      refine whB_at (fun f ρ S7 => ∃ Csh y6 y7 y8 y9, ρ = [some (.fl (ns.map D.int)), some (.int cc), some (.ref s), some (.int sl), some (.tup (dsL Csh)), y5, y6, y7, y8, y9, x10, x11, x12] ∧ Src S7 s kk' ∧ S7[A]? = some (.lst L) ∧ Sf sl Csh J 0 J ∧ (itemsL Csh).length = f) ?_ (itemsL Bsh).length ⟨Bsh, _, _, _, _, rfl, sr6, gA6, hB, rfl⟩
      rintro f ρ S7 ⟨Csh, y6, y7, y8, y9, rfl, sr7, gA7, hC, hf⟩ N2 hN2
      ac_rfl
      refine nenil_pur (num_dat (dsL_num Csh)) ?_
      cases Csh with
      | nil =>
        (ac_rfl; iterate 2 ((try (simp only [Bool.not_true])); ac_rfl))
        refine phase2 n s0 s1 sr7 gA7 ne e1 (by omega) fun S' y4 y5 y7 y10 y11 y12 gA' => ?_
        exact hN _ _ ⟨_, _, _, _, _, _, _, _, _, _, _, _, rfl, gA'⟩
      | cons t Csh =>
        have hne : (t :: Csh) ≠ [] := List.cons_ne_nil _ _
        have hem : (dsL (t :: Csh)).isEmpty = false := rfl
        rw [hem]
        clear hem
        generalize t :: Csh = B1 at *
        (ac_rfl; iterate 2 ((try (simp only [Bool.not_false])); ac_rfl))
        have hnod := hC.nod
        have hits := hC.its
        show wpCs _ k_law_0a4a0 _ _ _
        bv_omega
        refine soft_items_ok (n + 57) B1 S7 _ _ hC.ne (by omega) (by omega) hC.nd fun r S8 x8 lr gr => ?_
        have lpr : (sortPr (prsL B1)).length = (itemsL B1).length := by
          unfold sortPr
          rw [(List.mergeSort_perm _ _).length_eq, ← prsL_items, List.length_map]
        ac_rfl
        refine it_lst gr ?_
        refine lcB_map (S1 := S8) pF fF (fun acc => lst_of (get_push gr _)) (by rw [List.length_nil, List.length_map]; omega) ?_ ?_
        · intro d hd
          obtain ⟨p, hp, rfl⟩ := List.mem_map.mp hd
          refine ⟨_, rfl, fun acc => ⟨fun K hK => ?_, fun _ K hK => ?_⟩⟩
          · ac_rfl
            exact hK
          · ac_rfl
            exact hK
        rw [List.nil_append, flt_prD]
        generalize hps : sortPr (prsL B1) = ps at *
        generalize his : (ps.filter fun p => p.1.1 == p.2).map Prod.snd = is at *
        have gi := last_get S8 (Ob.lst (is.map D.int))
        have x9 := x8.trans (Ext.push S8 (Ob.lst (is.map D.int)))
        generalize S8 ++ [Ob.lst (is.map D.int)] = S9 at *
        generalize S8.length = ai at *
        ac_rfl
        bv_omega
        refine soft_items_ok (n + 57) B1 S9 _ _ hC.ne (by omega) (by omega) hC.nd fun r2 S10 x10 lr2 gr2 => ?_
        rw [hps] at gr2
        have nd := hC.ndPr
        rw [hps] at nd
        ac_rfl
        refine dictF_go gr2 nd (by omega) ?_
        have gk := last_get S10 (Ob.fdi ps)
        have x11 := (x9.trans x10).trans (Ext.push S10 (Ob.fdi ps))
        have gi11 := (x10.trans (Ext.push S10 (Ob.fdi ps))).get gi
        generalize S10 ++ [Ob.fdi ps] = S11 at *
        generalize S10.length = ak at *
        ac_rfl
        bv_omega
        refine stake_ok (by omega) (by omega) (by omega) hC (by omega) hne fun S12 x12 => ?_
        obtain ⟨hB3, pm4⟩ := hC.take (m := 129) (fit180 (by omega)) hne
        obtain ⟨q, q1, q2, q3, q4⟩ := hC.least (m := 129) hne
        generalize takeS sl 129 B1 = tk at *
        obtain ⟨it, B3⟩ := tk
        dsimp only at *
        have mem : ∀ p, p ∈ ps ↔ p ∈ prsL B1 := fun p => by rw [← hps]; exact sortPr_mem
        have gi12 := x12.get gi11
        have gk12 := x12.get gk
        ac_rfl
        bv_omega
        refine ⟨by decide, by decide, smT, ?_⟩
        refine addl_go (get_push gi12 _) (last_get _ _) (by have := List.length_filter_le (fun p : Pr => p.1.1 == p.2) ps; rw [← his]; simp only [List.length_map]; show _ + 1 ≤ _; omega) ?_
        have gm := last_get (S12 ++ [Ob.lst [D.int (10 ^ Int.toNat 12)]]) (Ob.lst (is.map D.int ++ [D.int (10 ^ Int.toNat 12)]))
        have x13 := Ext.trans (Ext.push S12 (Ob.lst [D.int (10 ^ Int.toNat 12)])) (Ext.push _ (Ob.lst (is.map D.int ++ [D.int (10 ^ Int.toNat 12)])))
        have gk13 := x13.get gk12
        rw [show is.map D.int ++ [D.int (10 ^ Int.toNat 12)] = (is ++ [10 ^ Int.toNat 12]).map D.int by rw [List.map_append]; rfl] at gm x13 gk13 ⊢
        generalize (S12 ++ [Ob.lst [D.int (10 ^ Int.toNat 12)]]) ++ [Ob.lst ((is ++ [10 ^ Int.toNat 12]).map D.int)] = S13 at *
        generalize (S12 ++ [Ob.lst [D.int (10 ^ Int.toNat 12)]]).length = am at *
        refine mins_go gm (by simp) fun m hm => ?_
        have hmq : q ≤ m := by
          rcases List.mem_append.mp hm with z | z
          · rw [← his] at z
            obtain ⟨p, hp, rfl⟩ := List.mem_map.mp z
            exact q2 p ((mem p).mp (List.mem_filter.mp hp).1)
          · rw [List.mem_singleton.mp z]
            exact Int.le_trans q4.2 (by decide)
        ac_rfl
        rw [decide_eq_false (show ¬ m < it.1 by omega)]
        ac_rfl
        refine ixF_go gk13 (lookup_nd nd ((mem (it, q)).mpr q1)) ?_
        ac_rfl
        refine minF_go gk13 (fun z => by have := (mem (it, q)).mpr q1; rw [z] at this; cases this) fun m2 hm2 => ?_
        have hm2q : q ≤ m2 := by
          obtain ⟨p, hp, rfl⟩ := List.mem_map.mp hm2
          exact q2 p ((mem p).mp hp)
        ac_rfl
        rw [decide_eq_false (show ¬ m2 < q by omega)]
        ac_rfl
        have xx := (x11.trans x12).trans x13
        refine hN2 _ _ _ ?_ ⟨B3, _, _, _, _, rfl, sr7.ext xx, xx.get gA7, hB3, rfl⟩
        have := pm4.length_eq
        rw [List.length_cons] at this
        omega
    · rintro j d hd ρ S6 ⟨hj, Bsh, kk', y5, rfl, sr6, gA6, hB, e1, e2⟩ N2 hN2
      obtain ⟨rfl, hj2⟩ := rng_get hd
      refine ⟨_, rfl, ?_⟩
      rw [Int.zero_add]
      show wpCs _ k_law_0a3a0 _ _ _
      bv_omega
      refine lift (n := 0 + 2) (by omega) ?_
      refine take_src 0 kk' 300 s S6 _ _ sr6 (by omega) (by omega) (by decide) (by decide) fun t S7 t0 t1 _ fr7 sr7 => ?_
      have gA7 := gets_fr fr7 gA6 ne
      ac_rfl
      have iok : itOk (t, (j : Int)) := ⟨⟨by show (-1000000000000 : Int) ≤ t; omega, by show t ≤ 1000000000000; omega⟩, by show 0 ≤ (j : Int); omega, by show (j : Int) ≤ 1000000; omega⟩
      refine sput_ok (by omega) (by omega) (by omega) hB (by omega) (i := (t, (j : Int))) rfl iok fun S8 x8 => ?_
      obtain ⟨hB2, pm2⟩ := hB.put (m := 129) (by omega) (i := (t, (j : Int))) rfl iok (by omega) (fit180 (by omega)) (by omega)
      ac_rfl
      exact hN2 _ _ ⟨by omega, _, _, _, rfl, sr7.ext x8, x8.get gA7, hB2, by omega, by omega⟩
end Mn
namespace Mn
open PySem PySem.Spec PyProof.Rows L2 Hd
def e_0 : Ent := ⟨"want_of", f_want_of, (["rank", "slack", "want", "step"] : List Str), (["rank", "slack"] : List Str), none, none, d_0, false, none⟩
def e_1 : Ent := ⟨"filled", f_filled, (["tree", "slack", "rank", "key", "row", "one", "other"] : List Str), (["tree", "slack"] : List Str), none, none, d_1, false, none⟩
def e_2 : Ent := ⟨"tied", f_tied, (["one", "other", "slack"] : List Str), (["one", "other", "slack"] : List Str), none, none, d_2, false, none⟩
def e_3 : Ent := ⟨"tickets_in", f_tickets_in, (["shape", "found", "waiting", "rank", "key", "row", "one", "other", "item", "side"] : List Str), (["shape"] : List Str), none, none, d_3, false, none⟩
def e_4 : Ent := ⟨"soft_joined", f_soft_joined, (["one", "other", "slack", "known", "ticket", "first", "tree", "second", "carried", "found", "rank", "row"] : List Str), (["one", "other", "slack"] : List Str), some ("slack", .int 4), none, d_4, false, none⟩
def e_5 : Ent := ⟨"soft_put", f_soft_put, (["shape", "item", "slack"] : List Str), (["shape", "item", "slack"] : List Str), some ("slack", .int 4), none, d_5, false, none⟩
def e_6 : Ent := ⟨"soft_taken", f_soft_taken, (["shape", "slack", "keys", "tree", "at", "rank", "key", "row", "one", "other", "item", "rest"] : List Str), (["shape", "slack"] : List Str), some ("slack", .int 4), none, d_6, false, none⟩
def e_7 : Ent := ⟨"soft_items", f_soft_items, (["shape", "found", "ticket"] : List Str), (["shape"] : List Str), none, none, d_7, false, none⟩
def e_8 : Ent := ⟨"may_slip", f_may_slip, (["n", "slack", "found", "rank"] : List Str), (["n", "slack"] : List Str), some ("slack", .int 4), none, d_8, false, none⟩
def e_9 : Ent := ⟨"_law_stir", f_law_stir, (["cell", "k", "number"] : List Str), (["cell", "k"] : List Str), none, none, d_9, false, none⟩
def e_10 : Ent := ⟨"_law_source", f_law_source, (["cell"] : List Str), (["cell"] : List Str), none, none, d_10, false, none⟩
def e_11 : Ent := ⟨"_law_take", f_law_take, (["source", "size", "found"] : List Str), (["source", "size"] : List Str), none, none, d_11, false, none⟩
def e_12 : Ent := ⟨"_law_one_of", f_law_one_of, (["source", "some"] : List Str), (["source", "some"] : List Str), none, none, d_12, false, none⟩
def e_13 : Ent := ⟨"law", f_law, (["script", "cell", "source", "loose", "shape", "k", "sound", "item", "lowest", "known", "few", "step", "before"] : List Str), (["script"] : List Str), none, none, d_13, false, none⟩
def tld : Option (Str × List (Nat × Str)) := none
abbrev TT (K : Fg) : List (Addr × Str) := []
def tab : List Ent := [e_0, e_1, e_2, e_3, e_4, e_5, e_6, e_7, e_8, e_9, e_10, e_11, e_12, e_13]
theorem chk_0 : (scopeB e_0.N e_0.ps e_0.d.scope && (chkCs (cxOfE tab csts free flds excs tld e_0.lam e_0.N e_0.d.scope) b_want_of.body e_0.d.body)) = true := by decide +kernel
theorem chk_1 : (scopeB e_1.N e_1.ps e_1.d.scope && (chkCs (cxOfE tab csts free flds excs tld e_1.lam e_1.N e_1.d.scope) b_filled.body e_1.d.body)) = true := by decide +kernel
theorem chk_2 : (scopeB e_2.N e_2.ps e_2.d.scope && (chkCs (cxOfE tab csts free flds excs tld e_2.lam e_2.N e_2.d.scope) b_tied.body e_2.d.body)) = true := by decide +kernel
theorem chk_3 : (scopeB e_3.N e_3.ps e_3.d.scope && (chkCs (cxOfE tab csts free flds excs tld e_3.lam e_3.N e_3.d.scope) b_tickets_in.body e_3.d.body)) = true := by decide +kernel
theorem chk_4 : (scopeB e_4.N e_4.ps e_4.d.scope && (chkCs (cxOfE tab csts free flds excs tld e_4.lam e_4.N e_4.d.scope) b_soft_joined.body e_4.d.body)) = true := by decide +kernel
theorem chk_5 : (scopeB e_5.N e_5.ps e_5.d.scope && (chkCs (cxOfE tab csts free flds excs tld e_5.lam e_5.N e_5.d.scope) b_soft_put.body e_5.d.body)) = true := by decide +kernel
theorem chk_6 : (scopeB e_6.N e_6.ps e_6.d.scope && (chkCs (cxOfE tab csts free flds excs tld e_6.lam e_6.N e_6.d.scope) b_soft_taken.body e_6.d.body)) = true := by decide +kernel
theorem chk_7 : (scopeB e_7.N e_7.ps e_7.d.scope && (chkCs (cxOfE tab csts free flds excs tld e_7.lam e_7.N e_7.d.scope) b_soft_items.body e_7.d.body)) = true := by decide +kernel
theorem chk_8 : (scopeB e_8.N e_8.ps e_8.d.scope && (chkCs (cxOfE tab csts free flds excs tld e_8.lam e_8.N e_8.d.scope) b_may_slip.body e_8.d.body)) = true := by decide +kernel
theorem chk_9 : (scopeB e_9.N e_9.ps e_9.d.scope && (chkCs (cxOfE tab csts free flds excs tld e_9.lam e_9.N e_9.d.scope) b_law_stir.body e_9.d.body)) = true := by decide +kernel
theorem chk_10 : (scopeB e_10.N e_10.ps e_10.d.scope && (chkCs (cxOfE tab csts free flds excs tld e_10.lam e_10.N e_10.d.scope) b_law_source.body e_10.d.body)) = true := by decide +kernel
theorem chk_11 : (scopeB e_11.N e_11.ps e_11.d.scope && (chkCs (cxOfE tab csts free flds excs tld e_11.lam e_11.N e_11.d.scope) b_law_take.body e_11.d.body)) = true := by decide +kernel
theorem chk_12 : (scopeB e_12.N e_12.ps e_12.d.scope && (chkCs (cxOfE tab csts free flds excs tld e_12.lam e_12.N e_12.d.scope) b_law_one_of.body e_12.d.body)) = true := by decide +kernel
theorem chk_13 : (scopeB e_13.N e_13.ps e_13.d.scope && (chkCs (cxOfE tab csts free flds excs tld e_13.lam e_13.N e_13.d.scope) b_law.body e_13.d.body)) = true := by decide +kernel
theorem fa_of {K : Fg} (c : He.SaysD fa dd K) {f : He.Fa} (h : f ∈ fa) : f.ok K = true := List.all_eq_true.mp (He.ba (show ((fa.all fun f => f.ok K) && dd.all fun d => d.ok K) = true from congrArg (fun z : He.AlD => z.1) c)).1 _ h
theorem fa_free {x : Str} (h : x ∈ free) : He.Fa.free x ∈ fa := List.mem_append_left _ (List.mem_append_right _ (List.mem_append_left _ (List.mem_map_of_mem h)))
theorem fa_fld {f : He.Fa} (h : f ∈ fldFa cs flds) : f ∈ fa := List.mem_append_left _ (List.mem_append_right _ (List.mem_append_right _ (List.mem_append_left _ h)))
theorem ent_0 {K : Fg} {h : Heap} {mg : Str → Option Value} (X : K.In h) (G : h.Ns mainGlobals mg) (c : He.SaysD fa dd K) : ∃ fd, EntOk K mg (clOf K cs (TT K)) PP tab csts free flds excs tld e_0 fd := by
  obtain ⟨fd, F⟩ := c.def_ 0 (d := d_0) rfl
  obtain ⟨k1, k2⟩ := and2 chk_0
  have g : (He.Fa.glo d_0.at_.1).ok K = true := c.fact 0 (f := He.Fa.glo d_0.at_.1) rfl
  exact ⟨fd, F, (fun _ => He.glo_ok X G g), (fun _ _ _ z => nomatch z), (fun _ => FunD.bindsN F fun _ _ _ _ _ _ us hl => match us, hl with | [_, _], _ => rfl), (fun _ _ _ _ z => nomatch z), k1, b_want_of, rfl, rfl, rfl, k2⟩
theorem ent_1 {K : Fg} {h : Heap} {mg : Str → Option Value} (X : K.In h) (G : h.Ns mainGlobals mg) (c : He.SaysD fa dd K) : ∃ fd, EntOk K mg (clOf K cs (TT K)) PP tab csts free flds excs tld e_1 fd := by
  obtain ⟨fd, F⟩ := c.def_ 1 (d := d_1) rfl
  obtain ⟨k1, k2⟩ := and2 chk_1
  have g : (He.Fa.glo d_1.at_.1).ok K = true := c.fact 1 (f := He.Fa.glo d_1.at_.1) rfl
  exact ⟨fd, F, (fun _ => He.glo_ok X G g), (fun _ _ _ z => nomatch z), (fun _ => FunD.bindsN F fun _ _ _ _ _ _ us hl => match us, hl with | [_, _], _ => rfl), (fun _ _ _ _ z => nomatch z), k1, b_filled, rfl, rfl, rfl, k2⟩
theorem ent_2 {K : Fg} {h : Heap} {mg : Str → Option Value} (X : K.In h) (G : h.Ns mainGlobals mg) (c : He.SaysD fa dd K) : ∃ fd, EntOk K mg (clOf K cs (TT K)) PP tab csts free flds excs tld e_2 fd := by
  obtain ⟨fd, F⟩ := c.def_ 2 (d := d_2) rfl
  obtain ⟨k1, k2⟩ := and2 chk_2
  have g : (He.Fa.glo d_2.at_.1).ok K = true := c.fact 2 (f := He.Fa.glo d_2.at_.1) rfl
  exact ⟨fd, F, (fun _ => He.glo_ok X G g), (fun _ _ _ z => nomatch z), (fun _ => FunD.bindsN F fun _ _ _ _ _ _ us hl => match us, hl with | [_, _, _], _ => rfl), (fun _ _ _ _ z => nomatch z), k1, b_tied, rfl, rfl, rfl, k2⟩
theorem ent_3 {K : Fg} {h : Heap} {mg : Str → Option Value} (X : K.In h) (G : h.Ns mainGlobals mg) (c : He.SaysD fa dd K) : ∃ fd, EntOk K mg (clOf K cs (TT K)) PP tab csts free flds excs tld e_3 fd := by
  obtain ⟨fd, F⟩ := c.def_ 3 (d := d_3) rfl
  obtain ⟨k1, k2⟩ := and2 chk_3
  have g : (He.Fa.glo d_3.at_.1).ok K = true := c.fact 3 (f := He.Fa.glo d_3.at_.1) rfl
  exact ⟨fd, F, (fun _ => He.glo_ok X G g), (fun _ _ _ z => nomatch z), (fun _ => FunD.bindsN F fun _ _ _ _ _ _ us hl => match us, hl with | [_], _ => rfl), (fun _ _ _ _ z => nomatch z), k1, b_tickets_in, rfl, rfl, rfl, k2⟩
theorem ent_4 {K : Fg} {h : Heap} {mg : Str → Option Value} (X : K.In h) (G : h.Ns mainGlobals mg) (c : He.SaysD fa dd K) : ∃ fd, EntOk K mg (clOf K cs (TT K)) PP tab csts free flds excs tld e_4 fd := by
  obtain ⟨fd, F⟩ := c.def_ 4 (d := d_4) rfl
  obtain ⟨k1, k2⟩ := and2 chk_4
  have g : (He.Fa.glo d_4.at_.1).ok K = true := c.fact 4 (f := He.Fa.glo d_4.at_.1) rfl
  have B := kw_bind (ps := e_4.ps) (d := (.int 4)) F 2 rfl (fun m H => by constructor)
    (fun D doc pm an cdv ct us k hl => match us, hl with | [_, _], _ => ⟨_, _, _, _, _, _, rfl, rfl, rfl⟩)
    (fun D doc pm an cdv ct us k hl => match us, hl with | [_, _], _ => rfl)
  exact ⟨fd, F, (fun _ => He.glo_ok X G g), (fun _ _ _ z => nomatch z), (fun _ => B), (fun _ _ _ _ z => nomatch z), k1, b_soft_joined, rfl, rfl, rfl, k2⟩
theorem ent_5 {K : Fg} {h : Heap} {mg : Str → Option Value} (X : K.In h) (G : h.Ns mainGlobals mg) (c : He.SaysD fa dd K) : ∃ fd, EntOk K mg (clOf K cs (TT K)) PP tab csts free flds excs tld e_5 fd := by
  obtain ⟨fd, F⟩ := c.def_ 5 (d := d_5) rfl
  obtain ⟨k1, k2⟩ := and2 chk_5
  have g : (He.Fa.glo d_5.at_.1).ok K = true := c.fact 5 (f := He.Fa.glo d_5.at_.1) rfl
  have B := kw_bind (ps := e_5.ps) (d := (.int 4)) F 2 rfl (fun m H => by constructor)
    (fun D doc pm an cdv ct us k hl => match us, hl with | [_, _], _ => ⟨_, _, _, _, _, _, rfl, rfl, rfl⟩)
    (fun D doc pm an cdv ct us k hl => match us, hl with | [_, _], _ => rfl)
  exact ⟨fd, F, (fun _ => He.glo_ok X G g), (fun _ _ _ z => nomatch z), (fun _ => B), (fun _ _ _ _ z => nomatch z), k1, b_soft_put, rfl, rfl, rfl, k2⟩
theorem ent_6 {K : Fg} {h : Heap} {mg : Str → Option Value} (X : K.In h) (G : h.Ns mainGlobals mg) (c : He.SaysD fa dd K) : ∃ fd, EntOk K mg (clOf K cs (TT K)) PP tab csts free flds excs tld e_6 fd := by
  obtain ⟨fd, F⟩ := c.def_ 6 (d := d_6) rfl
  obtain ⟨k1, k2⟩ := and2 chk_6
  have g : (He.Fa.glo d_6.at_.1).ok K = true := c.fact 6 (f := He.Fa.glo d_6.at_.1) rfl
  have B := kw_bind (ps := e_6.ps) (d := (.int 4)) F 1 rfl (fun m H => by constructor)
    (fun D doc pm an cdv ct us k hl => match us, hl with | [_], _ => ⟨_, _, _, _, _, _, rfl, rfl, rfl⟩)
    (fun D doc pm an cdv ct us k hl => match us, hl with | [_], _ => rfl)
  exact ⟨fd, F, (fun _ => He.glo_ok X G g), (fun _ _ _ z => nomatch z), (fun _ => B), (fun _ _ _ _ z => nomatch z), k1, b_soft_taken, rfl, rfl, rfl, k2⟩
theorem ent_7 {K : Fg} {h : Heap} {mg : Str → Option Value} (X : K.In h) (G : h.Ns mainGlobals mg) (c : He.SaysD fa dd K) : ∃ fd, EntOk K mg (clOf K cs (TT K)) PP tab csts free flds excs tld e_7 fd := by
  obtain ⟨fd, F⟩ := c.def_ 7 (d := d_7) rfl
  obtain ⟨k1, k2⟩ := and2 chk_7
  have g : (He.Fa.glo d_7.at_.1).ok K = true := c.fact 7 (f := He.Fa.glo d_7.at_.1) rfl
  exact ⟨fd, F, (fun _ => He.glo_ok X G g), (fun _ _ _ z => nomatch z), (fun _ => FunD.bindsN F fun _ _ _ _ _ _ us hl => match us, hl with | [_], _ => rfl), (fun _ _ _ _ z => nomatch z), k1, b_soft_items, rfl, rfl, rfl, k2⟩
theorem ent_8 {K : Fg} {h : Heap} {mg : Str → Option Value} (X : K.In h) (G : h.Ns mainGlobals mg) (c : He.SaysD fa dd K) : ∃ fd, EntOk K mg (clOf K cs (TT K)) PP tab csts free flds excs tld e_8 fd := by
  obtain ⟨fd, F⟩ := c.def_ 8 (d := d_8) rfl
  obtain ⟨k1, k2⟩ := and2 chk_8
  have g : (He.Fa.glo d_8.at_.1).ok K = true := c.fact 8 (f := He.Fa.glo d_8.at_.1) rfl
  have B := kw_bind (ps := e_8.ps) (d := (.int 4)) F 1 rfl (fun m H => by constructor)
    (fun D doc pm an cdv ct us k hl => match us, hl with | [_], _ => ⟨_, _, _, _, _, _, rfl, rfl, rfl⟩)
    (fun D doc pm an cdv ct us k hl => match us, hl with | [_], _ => rfl)
  exact ⟨fd, F, (fun _ => He.glo_ok X G g), (fun _ _ _ z => nomatch z), (fun _ => B), (fun _ _ _ _ z => nomatch z), k1, b_may_slip, rfl, rfl, rfl, k2⟩
theorem ent_9 {K : Fg} {h : Heap} {mg : Str → Option Value} (X : K.In h) (G : h.Ns mainGlobals mg) (c : He.SaysD fa dd K) : ∃ fd, EntOk K mg (clOf K cs (TT K)) PP tab csts free flds excs tld e_9 fd := by
  obtain ⟨fd, F⟩ := c.def_ 9 (d := d_9) rfl
  obtain ⟨k1, k2⟩ := and2 chk_9
  have g : (He.Fa.glo d_9.at_.1).ok K = true := c.fact 9 (f := He.Fa.glo d_9.at_.1) rfl
  exact ⟨fd, F, (fun _ => He.glo_ok X G g), (fun _ _ _ z => nomatch z), (fun _ => FunD.bindsN F fun _ _ _ _ _ _ us hl => match us, hl with | [_, _], _ => rfl), (fun _ _ _ _ z => nomatch z), k1, b_law_stir, rfl, rfl, rfl, k2⟩
theorem ent_10 {K : Fg} {h : Heap} {mg : Str → Option Value} (X : K.In h) (G : h.Ns mainGlobals mg) (c : He.SaysD fa dd K) : ∃ fd, EntOk K mg (clOf K cs (TT K)) PP tab csts free flds excs tld e_10 fd := by
  obtain ⟨fd, F⟩ := c.def_ 10 (d := d_10) rfl
  obtain ⟨k1, k2⟩ := and2 chk_10
  have g : (He.Fa.glo d_10.at_.1).ok K = true := c.fact 10 (f := He.Fa.glo d_10.at_.1) rfl
  exact ⟨fd, F, (fun _ => He.glo_ok X G g), (fun _ _ _ z => nomatch z), (fun _ => FunD.bindsN F fun _ _ _ _ _ _ us hl => match us, hl with | [_], _ => rfl), (fun _ _ _ _ z => nomatch z), k1, b_law_source, rfl, rfl, rfl, k2⟩
theorem ent_11 {K : Fg} {h : Heap} {mg : Str → Option Value} (X : K.In h) (G : h.Ns mainGlobals mg) (c : He.SaysD fa dd K) : ∃ fd, EntOk K mg (clOf K cs (TT K)) PP tab csts free flds excs tld e_11 fd := by
  obtain ⟨fd, F⟩ := c.def_ 11 (d := d_11) rfl
  obtain ⟨k1, k2⟩ := and2 chk_11
  have g : (He.Fa.glo d_11.at_.1).ok K = true := c.fact 11 (f := He.Fa.glo d_11.at_.1) rfl
  exact ⟨fd, F, (fun _ => He.glo_ok X G g), (fun _ _ _ z => nomatch z), (fun _ => FunD.bindsN F fun _ _ _ _ _ _ us hl => match us, hl with | [_, _], _ => rfl), (fun _ _ _ _ z => nomatch z), k1, b_law_take, rfl, rfl, rfl, k2⟩
theorem ent_12 {K : Fg} {h : Heap} {mg : Str → Option Value} (X : K.In h) (G : h.Ns mainGlobals mg) (c : He.SaysD fa dd K) : ∃ fd, EntOk K mg (clOf K cs (TT K)) PP tab csts free flds excs tld e_12 fd := by
  obtain ⟨fd, F⟩ := c.def_ 12 (d := d_12) rfl
  obtain ⟨k1, k2⟩ := and2 chk_12
  have g : (He.Fa.glo d_12.at_.1).ok K = true := c.fact 12 (f := He.Fa.glo d_12.at_.1) rfl
  exact ⟨fd, F, (fun _ => He.glo_ok X G g), (fun _ _ _ z => nomatch z), (fun _ => FunD.bindsN F fun _ _ _ _ _ _ us hl => match us, hl with | [_, _], _ => rfl), (fun _ _ _ _ z => nomatch z), k1, b_law_one_of, rfl, rfl, rfl, k2⟩
theorem ent_13 {K : Fg} {h : Heap} {mg : Str → Option Value} (X : K.In h) (G : h.Ns mainGlobals mg) (c : He.SaysD fa dd K) : ∃ fd, EntOk K mg (clOf K cs (TT K)) PP tab csts free flds excs tld e_13 fd := by
  obtain ⟨fd, F⟩ := c.def_ 13 (d := d_13) rfl
  obtain ⟨k1, k2⟩ := and2 chk_13
  have g : (He.Fa.glo d_13.at_.1).ok K = true := c.fact 13 (f := He.Fa.glo d_13.at_.1) rfl
  exact ⟨fd, F, (fun _ => He.glo_ok X G g), (fun _ _ _ z => nomatch z), (fun _ => FunD.bindsN F fun _ _ _ _ _ _ us hl => match us, hl with | [_], _ => rfl), (fun _ _ _ _ z => nomatch z), k1, b_law, rfl, rfl, rfl, k2⟩
theorem hlo_a (g : Nat) : PP (g + 200) = none := rfl
theorem hlo_ok (g : Nat) : PP (g + 1000000) = none := by rw [show g + 1000000 = (g + 999800) + 200 from (Nat.add_assoc g 999800 200).symm]; exact hlo_a _
theorem tab_ok {K : Fg} {h : Heap} {mg : Str → Option Value} (X : K.In h) (G : h.Ns mainGlobals mg) (c : He.SaysD fa dd K) : ∀ e ∈ tab, ∃ fd, EntOk K mg (clOf K cs (TT K)) PP tab csts free flds excs tld e fd := List.forall_mem_cons.mpr ⟨ent_0 X G c, List.forall_mem_cons.mpr ⟨ent_1 X G c, List.forall_mem_cons.mpr ⟨ent_2 X G c, List.forall_mem_cons.mpr ⟨ent_3 X G c, List.forall_mem_cons.mpr ⟨ent_4 X G c, List.forall_mem_cons.mpr ⟨ent_5 X G c, List.forall_mem_cons.mpr ⟨ent_6 X G c, List.forall_mem_cons.mpr ⟨ent_7 X G c, List.forall_mem_cons.mpr ⟨ent_8 X G c, List.forall_mem_cons.mpr ⟨ent_9 X G c, List.forall_mem_cons.mpr ⟨ent_10 X G c, List.forall_mem_cons.mpr ⟨ent_11 X G c, List.forall_mem_cons.mpr ⟨ent_12 X G c, List.forall_mem_cons.mpr ⟨ent_13 X G c, fun _ h => nomatch h⟩⟩⟩⟩⟩⟩⟩⟩⟩⟩⟩⟩⟩⟩
theorem glb_ok {w : World} {K : Fg} {h : Heap} {mg : Str → Option Value} (X : K.In h) (G : h.Ns mainGlobals mg) (ce : exB csts excs K = true) (kd : ∀ p ∈ csts.g, ∃ es n, KDict K w (He.ga K p.1) es n) (c : He.SaysD fa dd K) : Glb K w mg (clOf K cs (TT K)) csts free flds excs := glb_of X G ce (by decide) (fun x hx => fa_of c (fa_free hx)) (by decide) (fun f hf => fa_of c (fa_fld hf)) kd
theorem facts {P : Program} {w : World} {K : Fg} {h : Heap} {mg : Str → Option Value} {f : Addr} (X : K.In h) (G : h.Ns mainGlobals mg) (hfa : mg ("law" : Str) = some (.ref f)) (ce : exB csts excs K = true) (c : He.SaysD fa dd K) :
    ∃ fd : FuncData, (∀ (s : Shared) (v : Value), BindsTo s fd ⟨[v], []⟩ [("script", v)]) ∧ ∀ base : Heap, K.In base → base.Ns mainGlobals mg → FnOk P w K mg base CX0 161 f fd ["script"] ((fun vs H Q _ => spOf K (clOf K cs (TT K)) (callN PP 60) f_law 1 vs H Q fun _ _ _ => False)) := by
  obtain ⟨fd, ek⟩ := ent_13 X G c
  have e := hfa.symm.trans (ek.mgx rfl)
  cases e
  have b := FunD.bindsA (ps := ["script"]) ek.fn fun _ _ _ _ _ _ us hl => match us, hl with | [_], _ => rfl
  exact ⟨fd, fun s v => b s [v] rfl, fun base _ _ => law_fn (glb_ok X G ce (fun _ h => nomatch h) c) (tab_ok X G c) hlo_ok (fun _ _ z => nomatch z) 60 (List.mem_of_getElem? (show tab[13]? = some e_13 from rfl)) ek base (lamG_none rfl)⟩
end Mn
open PySem PySem.W PySem.Calls PyProof.Rows
theorem PySem.Challenge.cw_heapwright_k35_whole_what_soft_heaps_giv_holds : PySem.Challenge.rw_heapwright_k35_whole_what_soft_heaps_giv.Holds := by
  w_on; o_law
  refine HandSHeadRun.head_any (r := Mn.Hd.RR) (q := view Mn.Hd.RR.prog [19]) (H := Mn.Hd.hk) (ob := Mn.Hd.ob) (M := 8000) (loose := Mn.Hd.loose) (d := HandSHeadRun.topDef Mn.Hd.RR.prog 19) (kwd := []) Mn.Hd.ob_eq
    (by kernel_rfl) (fun s => by kernel_rfl) Mn.Hd.run (by kernel_rfl) (by kernel_rfl) (by kernel_rfl) (by rfl)
    (by first | assumption | decide +kernel) (by decide +kernel) ⟨rfl, rfl, rfl, rfl, rfl, by decide +kernel⟩ ?hw ?hc
  case hw => w_witness2
  case hc =>
    refine L2.walk_ofE (l := PySem.Challenge.rw_heapwright_k35_whole_what_soft_heaps_giv) (n := 63) (k := 161) (x := "script") (CX := L2.CX0) rfl (by decide) (by kernel_rfl) ⟨rfl, by decide, by decide⟩ ?F (fun _ _ _ _ z => z)
    intro w mg fa h Y G hmg0
    obtain ⟨K, KX, ce, c⟩ := Y
    have hmg : mg ("law" : PySem.Str) = some (.ref fa) := by
      have e : (HandSHeadRun.topDef Mn.Hd.RR.prog 19).name = ("law" : PySem.Str) := by kernel_rfl
      rw [← e]
      exact hmg0
    obtain ⟨fd, hb, hF⟩ := Mn.facts (P := (PySem.Challenge.rw_heapwright_k35_whole_what_soft_heaps_giv).prog) (w := w) KX G hmg ce c
    refine ⟨K, fd, _, KX, hb, ?_, hF⟩
    exact fun H a ns hl hO hS => Mn.law_sp (fun _ h => nomatch h) (Mn.pers_only hO hS) (Mn.of_Z (Mn.law_ok 0 ns hl)) (Mn.callN_mono Mn.PP 60)
#print axioms PySem.Challenge.cw_heapwright_k35_whole_what_soft_heaps_giv_holds

