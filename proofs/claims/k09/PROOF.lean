import PyProof.Rows.All
import Wide.All
import OpenK.AllK
import Wide.FinOn
import KE.KStateDown
import KE.SortData
import KE.DataMinMax
import KE.GoesEnum
import PyProof.CollectIter
import Lean
import HandS.Base
import HandS.Call
import HandS.List
import HandS.Dict
import HandS.Iter
import HandS.Comp
import HandS.DictComp
import HandS.Conv
import HandS.SetFor
import HandS.SortKw
import HandS.WideBits
import HandS.CallRecv
import HandS.MakeKwOnly
import HandS.Ends
import HandS.More
import HandS.NoneIn
import HandS.Words
import HandS.WordsExc
import HandS.WordsDict
import HandS.IsInst
import HandS.TupAny
import HandS.TupLe
import HandS.Wide
import HandS.Style
import HandS.Defaults
import HandS.Head0
import HandS.Head1
import HandS.Head2
import HandS.HeadEnd
import HandS.HeadHook1
import HandS.HeadHook2
import PySem.Challenge.RW_heapwright_k09_pair_put_and_joined
set_option Elab.async false
set_option linter.all false
set_option maxRecDepth 100000
set_option maxHeartbeats 8000000
set_option exponentiation.threshold 5000
/-! A small language of our own: values, a store, what a piece of it wants (weakest preconditions). -/
namespace Mn
open PySem

/-- a value: tuples and lists that are read alone by value, lists, dicts, instances by a number in the store -/
inductive D where
  | non | bl (b : Bool) | int (i : Int) | str (x : Str) | tup (l : List D) | fl (l : List D) | ref (n : Nat)

abbrev Key := Sum Int Str
/-- an object of the store -/
inductive Ob where
  | lst (l : List D) | dct (l : List (Key × D)) | fdct (l : List (Key × D)) | ins (c : Nat) (fs : List (Str × D))
abbrev Store := List Ob
abbrev Env := List (Option D)
abbrev DK := D → Store → Prop
abbrev XK := Nat → Store → Prop
def noX : XK := fun _ _ => False

/-- the greatest length that is asked for -/
abbrev lim : Nat := 1000000

def D.scal : D → Bool
  | .non => true | .bl _ => true | .int _ => true | .str _ => true | _ => false
def D.sEq : D → D → Bool
  | .non, .non => true
  | .bl a, .bl b => a == b
  | .bl a, .int b => (if a then 1 else 0) == b
  | .int a, .bl b => a == (if b then 1 else 0)
  | .int a, .int b => a == b
  | .str a, .str b => a == b
  | _, _ => false
/-- the items of a list in the store -/
def lst? (S : Store) (n : Nat) : Option (List D) := match S[n]? with
  | some (.lst l) => some l
  | _ => none
/-- the items of a list -/
def lq? (S : Store) : D → Option (List D)
  | .fl l => some l
  | .ref n => lst? S n
  | _ => none
/-- the items of a list or a tuple -/
def seq? (S : Store) : D → Option (List D)
  | .tup l => some l
  | d => lq? S d

/-! data as a whole -/
mutual
inductive Snap (S : Store) : D → PyData → Prop
  | non : Snap S .non .none
  | bl (b : Bool) : Snap S (.bl b) (.bool b)
  | int (i : Int) : Snap S (.int i) (.int i)
  | str (x : Str) : Snap S (.str x) (.str x)
  | tup {ds : List D} {ps : List PyData} : Snaps S ds ps → Snap S (.tup ds) (.tuple ps)
  | lst {d : D} {ds : List D} {ps : List PyData} : lq? S d = some ds → Snaps S ds ps → Snap S d (.list ps)
inductive Snaps (S : Store) : List D → List PyData → Prop
  | nil : Snaps S [] []
  | cons {d : D} {ds : List D} {p : PyData} {ps : List PyData} : Snap S d p → Snaps S ds ps → Snaps S (d :: ds) (p :: ps)
end

/-! data without a list in it -/
mutual
def D.py : D → PyData
  | .non => .none
  | .bl b => .bool b
  | .int i => .int i
  | .str x => .str x
  | .tup l => .tuple (pys l)
  | .fl _ => .none
  | .ref _ => .none
def pys : List D → List PyData
  | [] => []
  | d :: r => d.py :: pys r
end
mutual
def D.pur : D → Bool
  | .tup l => purs l
  | .fl _ => false
  | .ref _ => false
  | _ => true
def purs : List D → Bool
  | [] => true
  | d :: r => d.pur && purs r
end
/-- sorted, as the machine does it -/
def sortD (l : List D) : List D := l.mergeSort (PySem.W.dataLe false D.py)
/-- the first of the least, of the greatest -/
def minL (x : D) (l : List D) : D := l.foldl (fun a y => if PySem.W.dataLt y.py a.py then y else a) x
def maxL (x : D) (l : List D) : D := l.foldl (fun a y => if PySem.W.dataLt a.py y.py then y else a) x
/-- what an order of data asks -/
def OrdOk (l : List D) : Prop := purs l = true ∧ PySem.W.AllAlike (pys l) ∧ PySem.W.Sortable (pys l) ∧ ∀ p ∈ pys l, p.depth ≤ 60
def cEq (x y : D) (S : Store) (K : Bool → Prop) : Prop :=
  match x.scal && y.scal with
  | true => K (x.sEq y)
  | false => ∃ p q, Snap S x p ∧ Snap S y q ∧ p.canLay0 = true ∧ q.canLay0 = true ∧ min p.depth q.depth ≤ 150 ∧ K (PyData.eqv p q)
def ints? : List D → Option (List Int)
  | [] => some []
  | .int i :: r => (ints? r).map (i :: ·)
  | _ => none
def keyOf : D → Option Key
  | .int i => some (.inl i)
  | .str x => some (.inr x)
  | _ => none
def dGet (kvs : List (Key × D)) (k : Key) : Option D := (kvs.find? fun kv => decide (kv.1 = k)).map (·.2)
def dPut (kvs : List (Key × D)) (k : Key) (v : D) : List (Key × D) :=
  if (kvs.any fun kv => decide (kv.1 = k)) = true then kvs.map (fun kv => if kv.1 = k then (kv.1, v) else kv) else kvs ++ [(k, v)]
def dDrop (kvs : List (Key × D)) (k : Key) : List (Key × D) := kvs.filter fun kv => decide (kv.1 ≠ k)
def keyD : Key → D
  | .inl i => .int i
  | .inr x => .str x
/-- the pairs of a dict in the store -/
def dct? (S : Store) : D → Option (List (Key × D))
  | .ref n => (match S[n]? with | some (.dct l) => some l | _ => none)
  | _ => none
/-- the pairs of a dict that is read; it may be walked meanwhile -/
def dctr? (S : Store) : D → Option (List (Key × D))
  | .ref n => (match S[n]? with | some (.dct l) => some l | some (.fdct l) => some l | _ => none)
  | _ => none
def cIs (x y : D) (K : Bool → Prop) : Prop := match y with
  | .non => K (match x with | .non => true | _ => false)
  | .bl b => (match x with | .bl a => K (decide (a = b)) | _ => False)
  | _ => False
def cIn (x y : D) (S : Store) (K : Bool → Prop) : Prop := match seq? S y with
  | some l => x.scal = true ∧ l.all D.scal = true ∧ K (l.any fun z => z.sEq x)
  | none => (match dctr? S y, keyOf x with
    | some kvs, some k => K (dGet kvs k).isSome
    | _, _ => False)
def cLe (x y : D) (K : Bool → Prop) : Prop := match x, y with
  | .int i, .int j => K (decide (i ≤ j))
  | _, _ => False
def cGt (x y : D) (K : Bool → Prop) : Prop := match x, y with
  | .int i, .int j => K (decide (j < i))
  | .tup a, .tup b => (match ints? a, ints? b with | some i, some j => K (HT.lexLt j i) | _, _ => False)
  | _, _ => False
def cGe (x y : D) (K : Bool → Prop) : Prop := match x, y with
  | .int i, .int j => K (decide (j ≤ i))
  | _, _ => False
def cLt (x y : D) (K : Bool → Prop) : Prop := match x, y with
  | .int i, .int j => K (decide (i < j))
  | .tup a, .tup b => (match ints? a, ints? b with | some i, some j => K (HT.lexLt i j) | _, _ => False)
  | _, _ => False
def cmpB (op : CmpOp) (x y : D) (S : Store) (K : Bool → Prop) : Prop := match op with
  | .Eq => cEq x y S K
  | .NotEq => cEq x y S fun b => K (!b)
  | .Lt => cLt x y K
  | .LtE => cLe x y K
  | .Gt => cGt x y K
  | .GtE => cGe x y K
  | .Is => cIs x y K
  | .IsNot => cIs x y fun b => K (!b)
  | .In => cIn x y S K
  | .NotIn => cIn x y S fun b => K (!b)

/-! operators -/
def bAdd (x y : D) (S : Store) (Q : DK) : Prop := match x, y with
  | .int i, .int j => Q (.int (i + j)) S
  | .int i, .bl j => Q (.int (i + if j then 1 else 0)) S
  | .tup a, .tup b => a.length + b.length ≤ lim ∧ Q (.tup (a ++ b)) S
  | a, b => (match lq? S a, lq? S b with
    | some l, some m => l.length + m.length ≤ lim ∧ Q (.ref S.length) (S ++ [.lst (l ++ m)])
    | _, _ => False)
/-- a number of at most some thousand bits -/
def Sm (i : Int) : Prop := i.natAbs < 2 ^ 4000
def bMul (x y : D) (S : Store) (Q : DK) : Prop := match x, y with
  | .int i, .int j => Sm i ∧ Sm j ∧ Q (.int (i * j)) S
  | .ref a, .int k => (match lst? S a with
    | some l => 0 ≤ k ∧ k ≤ 1000000 ∧ l.length * k.toNat ≤ lim ∧ Q (.ref S.length) (S ++ [.lst (List.replicate k.toNat l).flatten])
    | _ => False)
  | _, _ => False
def bSub (x y : D) (S : Store) (Q : DK) : Prop := match x, y with
  | .int i, .int j => Q (.int (i - j)) S
  | _, _ => False
def bDiv (x y : D) (S : Store) (Q : DK) : Prop := match x, y with
  | .int i, .int j => 0 < j ∧ Sm j ∧ Q (.int (i / j)) S
  | _, _ => False
def bMod (x y : D) (S : Store) (Q : DK) : Prop := match x, y with
  | .int i, .int j => 0 < j ∧ Q (.int (i % j)) S
  | _, _ => False
def bPow (x y : D) (S : Store) (Q : DK) : Prop := match x, y with
  | .int i, .int j => 0 ≤ j ∧ j ≤ 1000 ∧ Sm i ∧ Q (.int (i ^ j.toNat)) S
  | _, _ => False
def bShl (x y : D) (S : Store) (Q : DK) : Prop := match x, y with
  | .int i, .int j => L2.CPow i j ∧ Q (.int (i * 2 ^ j.toNat)) S
  | _, _ => False
def bShr (x y : D) (S : Store) (Q : DK) : Prop := match x, y with
  | .int i, .int j => 0 ≤ j ∧ Q (.int (i / 2 ^ j.toNat)) S
  | _, _ => False
def bop (op : Operator) (x y : D) (S : Store) (Q : DK) : Prop := match op with
  | .Add => bAdd x y S Q
  | .Sub => bSub x y S Q
  | .Mult => bMul x y S Q
  | .FloorDiv => bDiv x y S Q
  | .Mod => bMod x y S Q
  | .Pow => bPow x y S Q
  | .LShift => bShl x y S Q
  | .RShift => bShr x y S Q
  | _ => False

/-! types that isinstance asks for -/
inductive Ty where
  | int | bool | str | tuple | list | tl
  deriving DecidableEq
def isL (S : Store) : D → Option Bool
  | .fl _ => some true
  | .ref n => (lst? S n).map fun _ => true
  | _ => some false
def isTy (S : Store) (x : D) : Ty → Option Bool
  | .int => (match x with | .int _ => some true | .bl _ => some true | x => (isL S x).map fun _ => false)
  | .bool => (match x with | .bl _ => some true | x => (isL S x).map fun _ => false)
  | .str => (match x with | .str _ => some true | x => (isL S x).map fun _ => false)
  | .tuple => (match x with | .tup _ => some true | x => (isL S x).map fun _ => false)
  | .list => isL S x
  | .tl => (match x with | .tup _ => some true | x => isL S x)

def imax (i j : Int) : Int := if j > i then j else i
def imin (i j : Int) : Int := if j < i then j else i
/-- built-ins -/
inductive Bt where
  | len | isi (t : Ty) | max2 | min2 | list1 | tuple1 | sorted1 | min1 | max1 | maxd | sum1 | any1 | all1 | int1 | dict1 | lrng
  deriving DecidableEq
/-- methods of built-in types -/
inductive Bm where
  | append | pop | popAt | insert | remove | index | get1 | get2 | dpop | bitlen
  deriving DecidableEq
def bls? : List D → Option (List Bool)
  | [] => some []
  | .bl b :: r => (bls? r).map (b :: ·)
  | _ => none
def len? (S : Store) : D → Option Nat
  | .tup l => some l.length
  | .str x => some x.length
  | .fl l => some l.length
  | .ref n => (match S[n]? with
    | some (.lst l) => some l.length
    | some (.dct l) => some l.length
    | _ => none)
  | _ => none
def bLen (ds : List D) (S : Store) (Q : DK) : Prop := match ds with
  | [x] => (match len? S x with | some n => n ≤ lim ∧ Q (.int n) S | none => False)
  | _ => False
def bIsi (t : Ty) (ds : List D) (S : Store) (Q : DK) : Prop := match ds with
  | [x] => (match isTy S x t with | some k => Q (.bl k) S | none => False)
  | _ => False
def b2I (f : Int → Int → Int) (ds : List D) (S : Store) (Q : DK) : Prop := match ds with
  | [.int i, .int j] => Q (.int (f i j)) S
  | _ => False
def bList (ds : List D) (S : Store) (Q : DK) : Prop := match ds with
  | [x] => (match seq? S x with
    | some l => Q (.ref S.length) (S ++ [.lst l])
    | none => (match dct? S x with
      | some kvs => Q (.ref S.length) (S ++ [.lst (kvs.map fun kv => keyD kv.1)])
      | none => False))
  | _ => False
def bTuple (ds : List D) (S : Store) (Q : DK) : Prop := match ds with
  | [x] => (match seq? S x with
    | some l => Q (.tup l) S
    | none => False)
  | _ => False
def bSorted (ds : List D) (S : Store) (Q : DK) : Prop := match ds with
  | [x] => (match lq? S x with
    | some l => OrdOk l ∧ Q (.ref S.length) (S ++ [.lst (sortD l)])
    | none => False)
  | _ => False
def bBest (f : D → List D → D) (ds : List D) (S : Store) (Q : DK) : Prop := match ds with
  | [x] => (match lq? S x with
    | some (d :: l) => OrdOk (d :: l) ∧ Q (f d l) S
    | _ => False)
  | _ => False
def bMaxd (ds : List D) (S : Store) (Q : DK) : Prop := match ds with
  | [x, e] => (match lq? S x with
    | some [] => Q e S
    | some (d :: l) => OrdOk (d :: l) ∧ Q (maxL d l) S
    | none => False)
  | _ => False
def bSum (ds : List D) (S : Store) (Q : DK) : Prop := match ds with
  | [x] => (match (lq? S x).bind ints? with
    | some l => Q (.int l.sum) S
    | none => False)
  | _ => False
def bAny (f : List Bool → Bool) (ds : List D) (S : Store) (Q : DK) : Prop := match ds with
  | [x] => (match (lq? S x).bind bls? with
    | some l => Q (.bl (f l)) S
    | none => False)
  | _ => False
def bInt (ds : List D) (S : Store) (Q : DK) : Prop := match ds with
  | [.int i] => Q (.int i) S
  | [.bl b] => Q (.int (if b then 1 else 0)) S
  | _ => False
def bDict (ds : List D) (S : Store) (Q : DK) : Prop := match ds with
  | [x] => (match dct? S x with
    | some kvs => Q (.ref S.length) (S ++ [.dct kvs])
    | none => False)
  | _ => False
def rngL (a b : Int) : List D := (List.range (b - a).toNat).map fun (k : Nat) => D.int (a + k)
def bLrng (ds : List D) (S : Store) (Q : DK) : Prop := match ds with
  | [.int n] => n ≤ 1000000 ∧ -1000000 ≤ n ∧ Q (.ref S.length) (S ++ [.lst (rngL 0 n)])
  | _ => False
def bt (b : Bt) (ds : List D) (S : Store) (Q : DK) : Prop := match b with
  | .list1 => bList ds S Q
  | .tuple1 => bTuple ds S Q
  | .sorted1 => bSorted ds S Q
  | .min1 => bBest minL ds S Q
  | .max1 => bBest maxL ds S Q
  | .maxd => bMaxd ds S Q
  | .sum1 => bSum ds S Q
  | .any1 => bAny (fun l => l.any id) ds S Q
  | .all1 => bAny (fun l => l.all id) ds S Q
  | .int1 => bInt ds S Q
  | .dict1 => bDict ds S Q
  | .lrng => bLrng ds S Q
  | .len => bLen ds S Q
  | .isi t => bIsi t ds S Q
  | .max2 => b2I imax ds S Q
  | .min2 => b2I imin ds S Q

/-- the first place of a flat thing in a list -/
def idx? (x : D) : List D → Option Nat
  | [] => none
  | y :: r => if y.sEq x = true then some 0 else (idx? x r).map (· + 1)
def mAppend (o : D) (ds : List D) (S : Store) (Q : DK) : Prop := match o, ds with
  | .ref n, [d] => (match S[n]? with
    | some (.lst l) => l.length < lim ∧ Q .non (S.set n (.lst (l ++ [d])))
    | _ => False)
  | _, _ => False
def mPop (o : D) (ds : List D) (S : Store) (Q : DK) : Prop := match o, ds with
  | .ref n, [] => (match S[n]? with
    | some (.lst l) => (match l.getLast? with | some d => Q d (S.set n (.lst l.dropLast)) | none => False)
    | _ => False)
  | _, _ => False
def mPopAt (o : D) (ds : List D) (S : Store) (Q : DK) : Prop := match o, ds with
  | .ref n, [.int i] => (match S[n]? with
    | some (.lst l) => (match L2.ixN l.length i with
      | some j => (match l[j]? with | some d => Q d (S.set n (.lst (l.eraseIdx j))) | none => False)
      | none => False)
    | _ => False)
  | _, _ => False
def mInsert (o : D) (ds : List D) (S : Store) (Q : DK) : Prop := match o, ds with
  | .ref n, [.int i, d] => (match S[n]? with
    | some (.lst l) => l.length < lim ∧ 0 ≤ i ∧ i ≤ 1000000 ∧ Q .non (S.set n (.lst (l.take i.toNat ++ [d] ++ l.drop i.toNat)))
    | _ => False)
  | _, _ => False
def mRemove (o : D) (ds : List D) (S : Store) (Q : DK) : Prop := match o, ds with
  | .ref n, [d] => (match S[n]? with
    | some (.lst l) => (match idx? d l with
      | some j => (ints? l).isSome = true ∧ (ints? [d]).isSome = true ∧ Q .non (S.set n (.lst (l.eraseIdx j)))
      | none => False)
    | _ => False)
  | _, _ => False
def mIndex (o : D) (ds : List D) (S : Store) (Q : DK) : Prop := match ds with
  | [d] => (match lq? S o with
    | some l => (match idx? d l with
      | some j => d.scal = true ∧ l.all D.scal = true ∧ Q (.int j) S
      | none => False)
    | none => False)
  | _ => False
def mGet (e : Option D) (o k : D) (S : Store) (Q : DK) : Prop := match dct? S o, keyOf k with
  | some kvs, some k => Q ((dGet kvs k).getD (e.getD .non)) S
  | _, _ => False
def mGet1 (o : D) (ds : List D) (S : Store) (Q : DK) : Prop := match ds with
  | [k] => mGet none o k S Q
  | _ => False
def mGet2 (o : D) (ds : List D) (S : Store) (Q : DK) : Prop := match ds with
  | [k, e] => mGet (some e) o k S Q
  | _ => False
def mDpop (o : D) (ds : List D) (S : Store) (Q : DK) : Prop := match o, ds with
  | .ref n, [k] => (match S[n]?, keyOf k with
    | some (.dct kvs), some k => (match dGet kvs k with | some v => Q v (S.set n (.dct (dDrop kvs k))) | none => False)
    | _, _ => False)
  | _, _ => False
def mBitlen (o : D) (ds : List D) (S : Store) (Q : DK) : Prop := match o, ds with
  | .int i, [] => Q (.int (Builtin.Int.intBits i : Nat)) S
  | _, _ => False
def bm (m : Bm) (o : D) (ds : List D) (S : Store) (Q : DK) : Prop := match m with
  | .append => mAppend o ds S Q
  | .pop => mPop o ds S Q
  | .popAt => mPopAt o ds S Q
  | .insert => mInsert o ds S Q
  | .remove => mRemove o ds S Q
  | .index => mIndex o ds S Q
  | .get1 => mGet1 o ds S Q
  | .get2 => mGet2 o ds S Q
  | .dpop => mDpop o ds S Q
  | .bitlen => mBitlen o ds S Q
def ixD (x i : D) (S : Store) (Q : DK) : Prop := match seq? S x with
  | some l => (match i with
    | .int i => (match L2.atI l i with | some v => Q v S | none => False)
    | _ => False)
  | none => (match dctr? S x, keyOf i with
    | some kvs, some k => (match dGet kvs k with | some v => Q v S | none => False)
    | _, _ => False)
/-- the part of a list from lo up to hi -/
def cut (l : List D) (lo hi : Option Int) : List D := (l.drop (HT.sIx l.length 0 lo)).take (HT.sIx l.length l.length hi - HT.sIx l.length 0 lo)
def slD (x : D) (a b : Option Int) (S : Store) (Q : DK) : Prop := match x with
  | .tup l => Q (.tup (cut l a b)) S
  | x => (match lq? S x with | some l => Q (.ref S.length) (S ++ [.lst (cut l a b)]) | none => False)

/-! the language -/
mutual
inductive Tg where
  | nm (i : Nat) | tp (ts : Tgs)
inductive Tgs where
  | nil | cons (t : Tg) (ts : Tgs)
end
mutual
inductive E where
  | bad | no
  | v (i : Nat) | cst (d : D)
  | and (a b : E) | or (a b : E) | not (a : E) | ite (c a b : E)
  | bin (op : Operator) (a b : E) | neg (a : E)
  | cmp (op : CmpOp) (a b : E) | chn (op op2 : CmpOp) (a b c : E)
  | ix (a i : E) | sl (a lo hi : E) | rev (a : E)
  | tup (es : Es) | lst (es : Es) | dct (ks vs : Es)
  | call (f : Nat) (es : Es)
  | calld (f : Nat) (es : Es) (d : D)
  | callk (f : Nat) (es : Es) (k : E)
  | blt (b : Bt) (es : Es)
  | bm (m : Bm) (o : E) (es : Es)
  | attr (c : Nat) (o : E) (f : Str)
  | meth (c : Nat) (m : Str) (f : Nat) (o : E) (es : Es)
  | make (c f : Nat) (es : Es)
  | lc (own : List Nat) (t : Tg) (it : It) (c e : E)
  | dc (own : List Nat) (t : Tg) (it : It) (k e : E)
inductive Es where
  | nil | cons (e : E) (es : Es)
/-- what a for walks -/
inductive It where
  | seq (e : E) | rng (a b : E) | rngd (a b : E) | rng2 (a b : E) | enum (e : E) | keys (e : E)
end
/-- a part of a slice: left out, or an int -/
def optP : E → D → Option (Option Int)
  | .no, _ => some none
  | _, .int i => some (some i)
  | _, _ => none
mutual
inductive C where
  | bad
  | set (i : Nat) (e : E)
  | asg (t : Tg) (e : E)
  | par (i j : Nat) (a b : E)
  | star (i j : Nat) (e : E)
  | unp (i j : Nat) (e : E)
  | setIx (o i e : E)
  | setA (c : Nat) (o : E) (f : Str) (e : E)
  | aug (i : Nat) (op : Operator) (e : E)
  | augA (c : Nat) (o : E) (f : Str) (op : Operator) (e : E)
  | augX (o i : E) (op : Operator) (e : E)
  | pass
  | raise (c : Nat)
  | ret (e : E)
  | ex (e : E)
  | cond (c : E) (a b : Cs)
  | whl (c : E) (b : Cs)
  | for_ (t : Tg) (it : It) (b : Cs)
inductive Cs where
  | nil | cons (c : C) (cs : Cs)
end
/-- a call's meaning: which def, its arguments -/
abbrev Sem := Nat → List D → Store → DK → XK → Prop

mutual
def Tg.bind : Tg → D → Env → Option Env
  | .nm i, d, ρ => some (ρ.set i (some d))
  | .tp ts, d, ρ => (match d with | .tup l => ts.bind l ρ | _ => none)
def Tgs.bind : Tgs → List D → Env → Option Env
  | .nil, l, ρ => (match l with | [] => some ρ | _ => none)
  | .cons t ts, l, ρ => (match l with
    | d :: r => (match t.bind d ρ with | some ρ1 => ts.bind r ρ1 | none => none)
    | [] => none)
end

/-- a list or a tuple that is walked -/
def itSeq (x : D) (S : Store) (R : List D → (Store → Prop) → Prop) : Prop := match x with
  | .tup l => R l (fun _ => True)
  | .fl l => R l (fun _ => True)
  | .ref n => (match lst? S n with
    | some l => R l (fun S => lst? S n = some l)
    | none => False)
  | _ => False
def rngD (a b : Int) : List D := (List.range (a - b).toNat).map fun (k : Nat) => D.int (a - k)
def rng2L (a b : Int) : List D := (List.range ((b - a + 1) / 2).toNat).map fun (k : Nat) => D.int (a + 2 * k)
def enumFrom (k : Nat) : List D → List D
  | [] => []
  | d :: r => .tup [.int k, d] :: enumFrom (k + 1) r
def enumL (l : List D) : List D := enumFrom 0 l
def dLit : List D → List D → Option (List (Key × D))
  | [], [] => some []
  | x :: xs, y :: ys => (match keyOf x, dLit xs ys with
    | some k, some r => if (r.any fun kv => decide (kv.1 = k)) = true then none else some ((k, y) :: r)
    | _, _ => none)
  | _, _ => none
def inst? (S : Store) : D → Option (Nat × List (Str × D))
  | .ref n => (match S[n]? with | some (.ins c fs) => some (c, fs) | _ => none)
  | _ => none
/-- the receiver of a method is of its type -/
def recv (m : Bm) (x : D) (S : Store) : Bool := match m with
  | .get1 => (dct? S x).isSome
  | .get2 => (dct? S x).isSome
  | .dpop => (dct? S x).isSome
  | .bitlen => (match x with | .int _ => true | _ => false)
  | _ => (lq? S x).isSome
/-- the comprehension's own names forgotten -/
def wipeE (ρ : Env) : List Nat → Env
  | [] => ρ
  | v :: vs => (wipeE ρ vs).set v none
/-- the turns of a list comprehension; the new list stands at n -/
def wpLc (t : Tg) (G : Store → Prop) (c e : Env → Store → DK → Prop) (Q : Store → Prop) (n : Nat) (ρ : Env) : List D → List D → Store → Prop
  | [], _, S => G S ∧ Q S
  | d :: r, acc, S => G S ∧ (match t.bind d ρ with
    | some ρ1 => c ρ1 S fun x S1 => match x with
      | .bl true => e ρ1 S1 fun y S2 => S2[n]? = some (.lst acc) ∧ acc.length < lim ∧ wpLc t G c e Q n ρ r (acc ++ [y]) (S2.set n (.lst (acc ++ [y])))
      | .bl false => wpLc t G c e Q n ρ r acc S1
      | _ => False
    | none => False)
/-- the turns of a dict comprehension -/
def wpDc (t : Tg) (G : Store → Prop) (c e : Env → Store → DK → Prop) (Q : Store → Prop) (n : Nat) (ρ : Env) : List D → List (Key × D) → Store → Prop
  | [], _, S => G S ∧ Q S
  | d :: r, acc, S => G S ∧ (match t.bind d ρ with
    | some ρ1 => c ρ1 S fun x S1 => match keyOf x with
      | some k => e ρ1 S1 fun y S2 => S2[n]? = some (.dct acc) ∧ acc.length < lim ∧ wpDc t G c e Q n ρ r (dPut acc k y) (S2.set n (.dct (dPut acc k y)))
      | none => False
    | none => False)

mutual
def wpE (F : Sem) : E → Env → Store → DK → XK → Prop
  | .bad, _, _, _, _ => False
  | .no, _, S, Q, _ => Q .non S
  | .v i, ρ, S, Q, _ => (match ρ[i]? with | some (some d) => Q d S | _ => False)
  | .cst d, _, S, Q, _ => Q d S
  | .and a b, ρ, S, Q, X => wpE F a ρ S (fun x S1 => match x with | .bl true => wpE F b ρ S1 Q X | .bl false => Q (.bl false) S1 | _ => False) X
  | .or a b, ρ, S, Q, X => wpE F a ρ S (fun x S1 => match x with | .bl true => Q (.bl true) S1 | .bl false => wpE F b ρ S1 Q X | _ => False) X
  | .not a, ρ, S, Q, X => wpE F a ρ S (fun x S1 => match x with | .bl b => Q (.bl (!b)) S1 | _ => False) X
  | .ite c a b, ρ, S, Q, X => wpE F c ρ S (fun x S1 => match x with | .bl true => wpE F a ρ S1 Q X | .bl false => wpE F b ρ S1 Q X | _ => False) X
  | .bin op a b, ρ, S, Q, X => wpE F a ρ S (fun x S1 => wpE F b ρ S1 (fun y S2 => bop op x y S2 Q) X) X
  | .neg a, ρ, S, Q, X => wpE F a ρ S (fun x S1 => match x with | .int i => Q (.int (-i)) S1 | _ => False) X
  | .cmp op a b, ρ, S, Q, X => wpE F a ρ S (fun x S1 => wpE F b ρ S1 (fun y S2 => cmpB op x y S2 fun k => Q (.bl k) S2) X) X
  | .chn op op2 a b c, ρ, S, Q, X => wpE F a ρ S (fun x S1 => wpE F b ρ S1 (fun y S2 => cmpB op x y S2 fun k => match k with
      | true => wpE F c ρ S2 (fun z S3 => cmpB op2 y z S3 fun k2 => Q (.bl k2) S3) X
      | false => Q (.bl false) S2) X) X
  | .ix a i, ρ, S, Q, X => wpE F a ρ S (fun x S1 => wpE F i ρ S1 (fun y S2 => ixD x y S2 Q) X) X
  | .sl a lo hi, ρ, S, Q, X => wpE F a ρ S (fun x S1 => wpE F lo ρ S1 (fun y S2 => match optP lo y with
      | some l => wpE F hi ρ S2 (fun z S3 => match optP hi z with
        | some h => slD x l h S3 Q
        | none => False) X
      | none => False) X) X
  | .rev a, ρ, S, Q, X => wpE F a ρ S (fun x S1 => match lq? S1 x with | some l => Q (.ref S1.length) (S1 ++ [.lst l.reverse]) | none => False) X
  | .dct ks vs, ρ, S, Q, X => wpEs F ks ρ S (fun xs S1 => wpEs F vs ρ S1 (fun ys S2 => match dLit xs ys with
      | some kvs => Q (.ref S2.length) (S2 ++ [.dct kvs])
      | none => False) X) X
  | .bm m o es, ρ, S, Q, X => wpE F o ρ S (fun x S1 => recv m x S1 = true ∧ wpEs F es ρ S1 (fun ds S2 => bm m x ds S2 Q) X) X
  | .attr c o f, ρ, S, Q, X => wpE F o ρ S (fun x S1 => match inst? S1 x with
      | some (c', fs) => (match fs.lookup f with | some d => c' = c ∧ Q d S1 | none => False)
      | none => False) X
  | .meth c m f o es, ρ, S, Q, X => wpE F o ρ S (fun x S1 => match inst? S1 x with
      | some (c', fs) => c' = c ∧ fs.lookup m = none ∧ wpEs F es ρ S1 (fun ds S2 => F f (x :: ds) S2 Q X) X
      | none => False) X
  | .make c f es, ρ, S, Q, X => wpEs F es ρ S (fun ds S1 => F f (.ref S1.length :: ds) (S1 ++ [.ins c []]) (fun d S2 => d = .non ∧ Q (.ref S1.length) S2) X) X
  | .lc own t it c e, ρ, S, Q, X => wpIt F it ρ S (fun l G S1 => wpLc t G (fun ρ S Q => wpE F c ρ S Q noX) (fun ρ S Q => wpE F e ρ S Q noX) (fun S2 => Q (.ref S1.length) S2) S1.length (wipeE ρ own) l [] (S1 ++ [.lst []])) X
  | .dc own t it c e, ρ, S, Q, X => wpIt F it ρ S (fun l G S1 => wpDc t G (fun ρ S Q => wpE F c ρ S Q noX) (fun ρ S Q => wpE F e ρ S Q noX) (fun S2 => Q (.ref S1.length) S2) S1.length (wipeE ρ own) l [] (S1 ++ [.dct []])) X
  | .tup es, ρ, S, Q, X => wpEs F es ρ S (fun ds S1 => ds.length ≤ lim ∧ Q (.tup ds) S1) X
  | .lst es, ρ, S, Q, X => wpEs F es ρ S (fun ds S1 => ds.length ≤ lim ∧ Q (.ref S1.length) (S1 ++ [.lst ds])) X
  | .call f es, ρ, S, Q, X => wpEs F es ρ S (fun ds S1 => F f ds S1 Q X) X
  | .calld f es d, ρ, S, Q, X => wpEs F es ρ S (fun ds S1 => F f (ds ++ [d]) S1 Q X) X
  | .callk f es k, ρ, S, Q, X => wpEs F es ρ S (fun ds S1 => wpE F k ρ S1 (fun z S2 => F f (ds ++ [z]) S2 Q X) X) X
  | .blt b es, ρ, S, Q, X => wpEs F es ρ S (fun ds S1 => bt b ds S1 Q) X
def wpEs (F : Sem) : Es → Env → Store → (List D → Store → Prop) → XK → Prop
  | .nil, _, S, Q, _ => Q [] S
  | .cons e es, ρ, S, Q, X => wpE F e ρ S (fun x S1 => wpEs F es ρ S1 (fun xs S2 => Q (x :: xs) S2) X) X
/-- what a for walks: its items, and what must hold of the store while it is walked -/
def wpIt (F : Sem) : It → Env → Store → (List D → (Store → Prop) → Store → Prop) → XK → Prop
  | .seq e, ρ, S, R, X => wpE F e ρ S (fun x S1 => itSeq x S1 fun l G => R l G S1) X
  | .rng a b, ρ, S, R, X => wpE F a ρ S (fun x S1 => wpE F b ρ S1 (fun y S2 => match x, y with
    | .int i, .int j => -1000000 ≤ i ∧ i ≤ 1000000 ∧ -1000000 ≤ j ∧ j ≤ 1000000 ∧ R (rngL i j) (fun _ => True) S2
    | _, _ => False) X) X
  | .rngd a b, ρ, S, R, X => wpE F a ρ S (fun x S1 => wpE F b ρ S1 (fun y S2 => match x, y with
    | .int i, .int j => -1000000 ≤ i ∧ i ≤ 1000000 ∧ -1000000 ≤ j ∧ j ≤ 1000000 ∧ R (rngD i j) (fun _ => True) S2
    | _, _ => False) X) X
  | .rng2 a b, ρ, S, R, X => wpE F a ρ S (fun x S1 => wpE F b ρ S1 (fun y S2 => match x, y with
    | .int i, .int j => -1000000 ≤ i ∧ i ≤ 1000000 ∧ -1000000 ≤ j ∧ j ≤ 1000000 ∧ R (rng2L i j) (fun _ => True) S2
    | _, _ => False) X) X
  | .enum e, ρ, S, R, X => wpE F e ρ S (fun x S1 => itSeq x S1 fun l G => R (enumL l) G S1) X
  | .keys e, ρ, S, R, X => wpE F e ρ S (fun x S1 => match x with
    | .ref n => (match S1[n]? with
      | some (.dct kvs) => R (kvs.map fun kv => keyD kv.1) (fun S => S[n]? = some (.fdct kvs)) (S1.set n (.fdct kvs))
      | _ => False)
    | _ => False) X
end
def Es.len : Es → Nat
  | .nil => 0
  | .cons _ es => es.len + 1
/-- what is wanted behind a statement -/
structure Ends where
  nx : Env → Store → Prop
  rt : DK
  bk : Env → Store → Prop
  ct : Env → Store → Prop
  xc : XK
def wpFor (t : Tg) (G : Store → Prop) (b : Ends → Env → Store → Prop) (K : Ends) : List D → Env → Store → Prop
  | [], ρ, S => G S ∧ K.nx ρ S
  | d :: r, ρ, S => G S ∧ (match t.bind d ρ with
    | some ρ1 => b { K with nx := wpFor t G b K r, ct := wpFor t G b K r, bk := K.nx } ρ1 S
    | none => False)
def wpWh (c : Env → Store → DK → Prop) (b : Ends → Env → Store → Prop) (K : Ends) : Nat → Env → Store → Prop
  | 0, _, _ => False
  | n + 1, ρ, S => c ρ S fun x S1 => match x with
    | .bl true => b { K with nx := wpWh c b K n, ct := wpWh c b K n, bk := K.nx } ρ S1
    | .bl false => K.nx ρ S1
    | _ => False
def setIx (o i v : D) (S : Store) (Q : Store → Prop) : Prop := match o with
  | .ref n => (match S[n]? with
    | some (.lst l) => (match i with
      | .int i => (match L2.ixN l.length i with
        | some j => Q (S.set n (.lst (l.set j v)))
        | none => False)
      | _ => False)
    | some (.dct kvs) => (match keyOf i with
      | some k => kvs.length < lim ∧ Q (S.set n (.dct (dPut kvs k v)))
      | none => False)
    | _ => False)
  | _ => False
def putF (f : Str) (d : D) : List (Str × D) → List (Str × D)
  | [] => [(f, d)]
  | (g, e) :: r => if g = f then (g, d) :: r else (g, e) :: putF f d r
def setAt (c : Nat) (f : Str) (o v : D) (S : Store) (Q : Store → Prop) : Prop := match o with
  | .ref n => (match S[n]? with
    | some (.ins c' fs) => c' = c ∧ fs.length < 900 ∧ Q (S.set n (.ins c' (putF f v fs)))
    | _ => False)
  | _ => False
/-- x op= y: ints, or a list that another one is put behind -/
def iop (op : Operator) (x y : D) (S : Store) (Q : DK) : Prop := match op with
  | .Add => (match x, y with
    | .int i, .int j => Q (.int (i + j)) S
    | .ref n, .ref b => (match S[n]?, S[b]? with
      | some (.lst l), some (.lst k) => l.length + k.length ≤ lim ∧ Q (.ref n) (S.set n (.lst (l ++ k)))
      | _, _ => False)
    | _, _ => False)
  | .Sub => (match x, y with
    | .int i, .int j => Q (.int (i - j)) S
    | _, _ => False)
  | _ => False
mutual
def wpC (F : Sem) : C → Ends → Env → Store → Prop
  | .bad, _, _, _ => False
  | .set i e, K, ρ, S => wpE F e ρ S (fun x S1 => K.nx (ρ.set i (some x)) S1) K.xc
  | .asg t e, K, ρ, S => wpE F e ρ S (fun x S1 => match t.bind x ρ with | some ρ1 => K.nx ρ1 S1 | none => False) K.xc
  | .par i j a b, K, ρ, S => wpE F a ρ S (fun x S1 => wpE F b ρ S1 (fun y S2 => K.nx ((ρ.set i (some x)).set j (some y)) S2) K.xc) K.xc
  | .star i j e, K, ρ, S => wpE F e ρ S (fun x S1 => match x with
    | .tup (d :: r) => K.nx ((ρ.set i (some d)).set j (some (.ref S1.length))) (S1 ++ [.lst r])
    | _ => False) K.xc
  | .unp i j e, K, ρ, S => wpE F e ρ S (fun x S1 => match lq? S1 x with
    | some [a, b] => K.nx ((ρ.set i (some a)).set j (some b)) S1
    | _ => False) K.xc
  | .setA c o f e, K, ρ, S => wpE F e ρ S (fun x S1 => wpE F o ρ S1 (fun y S2 => setAt c f y x S2 fun S3 => K.nx ρ S3) K.xc) K.xc
  | .aug i op e, K, ρ, S => (match ρ[i]? with
    | some (some x) => wpE F e ρ S (fun y S1 => iop op x y S1 fun z S2 => K.nx (ρ.set i (some z)) S2) K.xc
    | _ => False)
  | .augA c o f op e, K, ρ, S => wpE F o ρ S (fun x S1 => match inst? S1 x with
    | some (c', fs) => (match fs.lookup f with
      | some d => c' = c ∧ wpE F e ρ S1 (fun y S2 => iop op d y S2 fun z S3 => setAt c f x z S3 fun S4 => K.nx ρ S4) K.xc
      | none => False)
    | none => False) K.xc
  | .augX o i op e, K, ρ, S => wpE F o ρ S (fun x S1 => wpE F i ρ S1 (fun y S2 => ixD x y S2 fun z S3 => wpE F e ρ S3 (fun w S4 => iop op z w S4 fun r S5 => setIx x y r S5 fun S6 => K.nx ρ S6) K.xc) K.xc) K.xc
  | .pass, K, ρ, S => K.nx ρ S
  | .raise c, K, _, S => K.xc c S
  | .setIx o i e, K, ρ, S => wpE F e ρ S (fun x S1 => wpE F o ρ S1 (fun y S2 => wpE F i ρ S2 (fun z S3 => setIx y z x S3 fun S4 => K.nx ρ S4) K.xc) K.xc) K.xc
  | .ret e, K, ρ, S => wpE F e ρ S K.rt K.xc
  | .ex e, K, ρ, S => wpE F e ρ S (fun _ S1 => K.nx ρ S1) K.xc
  | .cond c a b, K, ρ, S => wpE F c ρ S (fun x S1 => match x with | .bl true => wpCs F a K ρ S1 | .bl false => wpCs F b K ρ S1 | _ => False) K.xc
  | .whl c b, K, ρ, S => ∃ n, wpWh (fun ρ S Q => wpE F c ρ S Q K.xc) (wpCs F b) K n ρ S
  | .for_ t it b, K, ρ, S => wpIt F it ρ S (fun l G S1 => wpFor t G (wpCs F b) K l ρ S1) K.xc
def wpCs (F : Sem) : Cs → Ends → Env → Store → Prop
  | .nil, K, ρ, S => K.nx ρ S
  | .cons c cs, K, ρ, S => wpC F c { K with nx := fun ρ1 S1 => wpCs F cs K ρ1 S1 } ρ S
end
/-- a def: how many parameters, how many names, its body -/
structure Fn where
  np : Nat
  n : Nat
  body : Cs
abbrev Prog := Nat → Option Fn
def rtEnds (Q : DK) (X : XK) : Ends := ⟨fun _ S => Q .non S, Q, fun _ _ => False, fun _ _ => False, X⟩
def startE (fn : Fn) (ds : List D) : Env := ds.map some ++ List.replicate (fn.n - ds.length) none
def callN (P : Prog) : Nat → Sem
  | 0, _, _, _, _, _ => False
  | n + 1, f, ds, S, Q, X => match P f with
    | some fn => ds.length = fn.np ∧ wpCs (callN P n) fn.body (rtEnds Q X) (startE fn ds) S
    | none => False
end Mn

namespace Mn
open PySem
def DK.le (Q Q' : DK) : Prop := ∀ d S, Q d S → Q' d S
def SemMono (F : Sem) : Prop := ∀ f ds S (Q Q' : DK) (X X' : XK), (∀ d S, Q d S → Q' d S) → (∀ c S, X c S → X' c S) → F f ds S Q X → F f ds S Q' X'
theorem cEq_mono {x y : D} {S : Store} {K K' : Bool → Prop} (h : ∀ b, K b → K' b) (q : cEq x y S K) : cEq x y S K' := by
  unfold cEq at *
  split at q
  · exact h _ q
  · obtain ⟨p, r, a, b, c, d, e, k⟩ := q
    exact ⟨p, r, a, b, c, d, e, h _ k⟩
theorem cIs_mono {x y : D} {K K' : Bool → Prop} (h : ∀ b, K b → K' b) (q : cIs x y K) : cIs x y K' := by
  unfold cIs at *
  split at q
  · exact h _ q
  · split at q
    · exact h _ q
    · exact q
  · exact q
theorem cIn_mono {x y : D} {S : Store} {K K' : Bool → Prop} (h : ∀ b, K b → K' b) (q : cIn x y S K) : cIn x y S K' := by
  unfold cIn at *
  (repeat' split at q) <;> first | exact ⟨q.1, q.2.1, h _ q.2.2⟩ | exact h _ q | exact q
theorem cLe_mono {x y : D} {K K' : Bool → Prop} (h : ∀ b, K b → K' b) (q : cLe x y K) : cLe x y K' := by
  unfold cLe at *
  split at q
  · exact h _ q
  · exact q
theorem cGt_mono {x y : D} {K K' : Bool → Prop} (h : ∀ b, K b → K' b) (q : cGt x y K) : cGt x y K' := by
  unfold cGt at *
  split at q
  · exact h _ q
  · split at q
    · exact h _ q
    · exact q
  · exact q
theorem cGe_mono {x y : D} {K K' : Bool → Prop} (h : ∀ b, K b → K' b) (q : cGe x y K) : cGe x y K' := by
  unfold cGe at *
  split at q
  · exact h _ q
  · exact q
theorem cLt_mono {x y : D} {K K' : Bool → Prop} (h : ∀ b, K b → K' b) (q : cLt x y K) : cLt x y K' := by
  unfold cLt at *
  split at q
  · exact h _ q
  · split at q
    · exact h _ q
    · exact q
  · exact q
theorem cmpB_mono {op : CmpOp} {x y : D} {S : Store} {K K' : Bool → Prop} (h : ∀ b, K b → K' b) (q : cmpB op x y S K) : cmpB op x y S K' := by
  cases op
  · exact cEq_mono h q
  · exact cEq_mono (fun b => h (!b)) q
  · exact cLt_mono h q
  · exact cLe_mono h q
  · exact cGt_mono h q
  · exact cGe_mono h q
  · exact cIs_mono h q
  · exact cIs_mono (fun b => h (!b)) q
  · exact cIn_mono h q
  · exact cIn_mono (fun b => h (!b)) q
theorem bSub_mono {x y : D} {S : Store} {Q Q' : DK} (h : ∀ d S, Q d S → Q' d S) (q : bSub x y S Q) : bSub x y S Q' := by
  unfold bSub at *
  split at q
  · exact h _ _ q
  · exact q
theorem bDiv_mono {x y : D} {S : Store} {Q Q' : DK} (h : ∀ d S, Q d S → Q' d S) (q : bDiv x y S Q) : bDiv x y S Q' := by
  unfold bDiv at *
  split at q
  · exact ⟨q.1, q.2.1, h _ _ q.2.2⟩
  · exact q
theorem bMod_mono {x y : D} {S : Store} {Q Q' : DK} (h : ∀ d S, Q d S → Q' d S) (q : bMod x y S Q) : bMod x y S Q' := by
  unfold bMod at *
  split at q
  · exact ⟨q.1, h _ _ q.2⟩
  · exact q
theorem bPow_mono {x y : D} {S : Store} {Q Q' : DK} (h : ∀ d S, Q d S → Q' d S) (q : bPow x y S Q) : bPow x y S Q' := by
  unfold bPow at *
  split at q
  · exact ⟨q.1, q.2.1, q.2.2.1, h _ _ q.2.2.2⟩
  · exact q
theorem bShl_mono {x y : D} {S : Store} {Q Q' : DK} (h : ∀ d S, Q d S → Q' d S) (q : bShl x y S Q) : bShl x y S Q' := by
  unfold bShl at *
  split at q
  · exact ⟨q.1, h _ _ q.2⟩
  · exact q
theorem bShr_mono {x y : D} {S : Store} {Q Q' : DK} (h : ∀ d S, Q d S → Q' d S) (q : bShr x y S Q) : bShr x y S Q' := by
  unfold bShr at *
  split at q
  · exact ⟨q.1, h _ _ q.2⟩
  · exact q
theorem bop_mono {op : Operator} {x y : D} {S : Store} {Q Q' : DK} (h : ∀ d S, Q d S → Q' d S) (q : bop op x y S Q) : bop op x y S Q' := by
  cases op with
  | Add =>
    show bAdd x y S Q'
    replace q : bAdd x y S Q := q
    unfold bAdd at *
    split at q
    · exact h _ _ q
    · exact h _ _ q
    · exact ⟨q.1, h _ _ q.2⟩
    · split at q
      · exact ⟨q.1, h _ _ q.2⟩
      · exact q
  | Mult =>
    show bMul x y S Q'
    replace q : bMul x y S Q := q
    unfold bMul at *
    split at q
    · exact ⟨q.1, q.2.1, h _ _ q.2.2⟩
    · split at q
      · exact ⟨q.1, q.2.1, q.2.2.1, h _ _ q.2.2.2⟩
      · exact q
    · exact q
  | Sub => exact bSub_mono h q
  | FloorDiv => exact bDiv_mono h q
  | Mod => exact bMod_mono h q
  | Pow => exact bPow_mono h q
  | LShift => exact bShl_mono h q
  | RShift => exact bShr_mono h q
  | _ => exact q
theorem bList_mono {ds : List D} {S : Store} {Q Q' : DK} (h : ∀ d S, Q d S → Q' d S) (q : bList ds S Q) : bList ds S Q' := by
  unfold bList at *
  (repeat' split at q) <;> first | exact h _ _ q | exact q
theorem bTuple_mono {ds : List D} {S : Store} {Q Q' : DK} (h : ∀ d S, Q d S → Q' d S) (q : bTuple ds S Q) : bTuple ds S Q' := by
  unfold bTuple at *
  (repeat' split at q) <;> first | exact h _ _ q | exact q
theorem bSorted_mono {ds : List D} {S : Store} {Q Q' : DK} (h : ∀ d S, Q d S → Q' d S) (q : bSorted ds S Q) : bSorted ds S Q' := by
  unfold bSorted at *
  (repeat' split at q) <;> first | exact ⟨q.1, h _ _ q.2⟩ | exact q
theorem bMaxd_mono {ds : List D} {S : Store} {Q Q' : DK} (h : ∀ d S, Q d S → Q' d S) (q : bMaxd ds S Q) : bMaxd ds S Q' := by
  unfold bMaxd at *
  (repeat' split at q) <;> first | exact h _ _ q | exact ⟨q.1, h _ _ q.2⟩ | exact q
theorem bSum_mono {ds : List D} {S : Store} {Q Q' : DK} (h : ∀ d S, Q d S → Q' d S) (q : bSum ds S Q) : bSum ds S Q' := by
  unfold bSum at *
  (repeat' split at q) <;> first | exact h _ _ q | exact q
theorem bInt_mono {ds : List D} {S : Store} {Q Q' : DK} (h : ∀ d S, Q d S → Q' d S) (q : bInt ds S Q) : bInt ds S Q' := by
  unfold bInt at *
  split at q <;> first | exact h _ _ q | exact q
theorem bDict_mono {ds : List D} {S : Store} {Q Q' : DK} (h : ∀ d S, Q d S → Q' d S) (q : bDict ds S Q) : bDict ds S Q' := by
  unfold bDict at *
  (repeat' split at q) <;> first | exact h _ _ q | exact q
theorem bLrng_mono {ds : List D} {S : Store} {Q Q' : DK} (h : ∀ d S, Q d S → Q' d S) (q : bLrng ds S Q) : bLrng ds S Q' := by
  unfold bLrng at *
  (repeat' split at q) <;> first | exact ⟨q.1, q.2.1, h _ _ q.2.2⟩ | exact q
theorem bBest_mono {f} {ds : List D} {S : Store} {Q Q' : DK} (h : ∀ d S, Q d S → Q' d S) (q : bBest f ds S Q) : bBest f ds S Q' := by
  unfold bBest at *
  (repeat' split at q) <;> first | exact ⟨q.1, h _ _ q.2⟩ | exact q
theorem bAny_mono {f} {ds : List D} {S : Store} {Q Q' : DK} (h : ∀ d S, Q d S → Q' d S) (q : bAny f ds S Q) : bAny f ds S Q' := by
  unfold bAny at *
  (repeat' split at q) <;> first | exact h _ _ q | exact q
theorem mAppend_mono {o : D} {ds : List D} {S : Store} {Q Q' : DK} (h : ∀ d S, Q d S → Q' d S) (q : mAppend o ds S Q) : mAppend o ds S Q' := by
  unfold mAppend at *
  (repeat' split at q) <;> first | exact ⟨q.1, h _ _ q.2⟩ | exact q
theorem mPop_mono {o : D} {ds : List D} {S : Store} {Q Q' : DK} (h : ∀ d S, Q d S → Q' d S) (q : mPop o ds S Q) : mPop o ds S Q' := by
  unfold mPop at *
  (repeat' split at q) <;> first | exact h _ _ q | exact q
theorem mPopAt_mono {o : D} {ds : List D} {S : Store} {Q Q' : DK} (h : ∀ d S, Q d S → Q' d S) (q : mPopAt o ds S Q) : mPopAt o ds S Q' := by
  unfold mPopAt at *
  (repeat' split at q) <;> first | exact h _ _ q | exact q
theorem mInsert_mono {o : D} {ds : List D} {S : Store} {Q Q' : DK} (h : ∀ d S, Q d S → Q' d S) (q : mInsert o ds S Q) : mInsert o ds S Q' := by
  unfold mInsert at *
  (repeat' split at q) <;> first | exact ⟨q.1, q.2.1, q.2.2.1, h _ _ q.2.2.2⟩ | exact q
theorem mRemove_mono {o : D} {ds : List D} {S : Store} {Q Q' : DK} (h : ∀ d S, Q d S → Q' d S) (q : mRemove o ds S Q) : mRemove o ds S Q' := by
  unfold mRemove at *
  (repeat' split at q) <;> first | exact ⟨q.1, q.2.1, h _ _ q.2.2⟩ | exact q
theorem mIndex_mono {o : D} {ds : List D} {S : Store} {Q Q' : DK} (h : ∀ d S, Q d S → Q' d S) (q : mIndex o ds S Q) : mIndex o ds S Q' := by
  unfold mIndex at *
  (repeat' split at q) <;> first | exact ⟨q.1, q.2.1, h _ _ q.2.2⟩ | exact q
theorem mDpop_mono {o : D} {ds : List D} {S : Store} {Q Q' : DK} (h : ∀ d S, Q d S → Q' d S) (q : mDpop o ds S Q) : mDpop o ds S Q' := by
  unfold mDpop at *
  (repeat' split at q) <;> first | exact h _ _ q | exact q
theorem mBitlen_mono {o : D} {ds : List D} {S : Store} {Q Q' : DK} (h : ∀ d S, Q d S → Q' d S) (q : mBitlen o ds S Q) : mBitlen o ds S Q' := by
  unfold mBitlen at *
  split at q <;> first | exact h _ _ q | exact q
theorem mGet_mono {e : Option D} {o k : D} {S : Store} {Q Q' : DK} (h : ∀ d S, Q d S → Q' d S) (q : mGet e o k S Q) : mGet e o k S Q' := by
  unfold mGet at *
  (repeat' split at q) <;> first | exact h _ _ q | exact q
theorem mGet1_mono {o : D} {ds : List D} {S : Store} {Q Q' : DK} (h : ∀ d S, Q d S → Q' d S) (q : mGet1 o ds S Q) : mGet1 o ds S Q' := by
  unfold mGet1 at *
  split at q <;> first | exact mGet_mono h q | exact q
theorem mGet2_mono {o : D} {ds : List D} {S : Store} {Q Q' : DK} (h : ∀ d S, Q d S → Q' d S) (q : mGet2 o ds S Q) : mGet2 o ds S Q' := by
  unfold mGet2 at *
  split at q <;> first | exact mGet_mono h q | exact q
theorem bm_mono {m : Bm} {o : D} {ds : List D} {S : Store} {Q Q' : DK} (h : ∀ d S, Q d S → Q' d S) (q : bm m o ds S Q) : bm m o ds S Q' := by
  cases m
  · exact mAppend_mono h q
  · exact mPop_mono h q
  · exact mPopAt_mono h q
  · exact mInsert_mono h q
  · exact mRemove_mono h q
  · exact mIndex_mono h q
  · exact mGet1_mono h q
  · exact mGet2_mono h q
  · exact mDpop_mono h q
  · exact mBitlen_mono h q
theorem bt_mono {b : Bt} {ds : List D} {S : Store} {Q Q' : DK} (h : ∀ d S, Q d S → Q' d S) (q : bt b ds S Q) : bt b ds S Q' := by
  cases b with
  | len =>
    replace q : bLen ds S Q := q
    show bLen ds S Q'
    unfold bLen at *
    (repeat' split at q) <;> first | exact ⟨q.1, h _ _ q.2⟩ | exact q
  | isi t =>
    replace q : bIsi t ds S Q := q
    show bIsi t ds S Q'
    unfold bIsi at *
    (repeat' split at q) <;> first | exact h _ _ q | exact q
  | max2 =>
    replace q : b2I imax ds S Q := q
    show b2I imax ds S Q'
    unfold b2I at *
    (repeat' split at q) <;> first | exact h _ _ q | exact q
  | min2 =>
    replace q : b2I imin ds S Q := q
    show b2I imin ds S Q'
    unfold b2I at *
    (repeat' split at q) <;> first | exact h _ _ q | exact q
  | list1 => exact bList_mono h q
  | tuple1 => exact bTuple_mono h q
  | sorted1 => exact bSorted_mono h q
  | min1 => exact bBest_mono h q
  | max1 => exact bBest_mono h q
  | maxd => exact bMaxd_mono h q
  | sum1 => exact bSum_mono h q
  | any1 => exact bAny_mono h q
  | all1 => exact bAny_mono h q
  | int1 => exact bInt_mono h q
  | dict1 => exact bDict_mono h q
  | lrng => exact bLrng_mono h q
theorem ixD_mono {x i : D} {S : Store} {Q Q' : DK} (h : ∀ d S, Q d S → Q' d S) (q : ixD x i S Q) : ixD x i S Q' := by
  unfold ixD at *
  (repeat' split at q) <;> first | exact h _ _ q | exact q
theorem slD_mono {x : D} {lo hi : Option Int} {S : Store} {Q Q' : DK} (h : ∀ d S, Q d S → Q' d S) (q : slD x lo hi S Q) : slD x lo hi S Q' := by
  unfold slD at *
  (repeat' split at q) <;> first | exact h _ _ q | exact q
theorem setIx_mono {o i v : D} {S : Store} {Q Q' : Store → Prop} (h : ∀ S, Q S → Q' S) (q : setIx o i v S Q) : setIx o i v S Q' := by
  unfold setIx at *
  (repeat' split at q) <;> first | exact ⟨q.1, h _ q.2⟩ | exact h _ q | exact q
theorem setAt_mono {c : Nat} {f : Str} {o v : D} {S : Store} {Q Q' : Store → Prop} (h : ∀ S, Q S → Q' S) (q : setAt c f o v S Q) : setAt c f o v S Q' := by
  unfold setAt at *
  (repeat' split at q) <;> first | exact ⟨q.1, q.2.1, h _ q.2.2⟩ | exact q
theorem iop_mono {op : Operator} {x y : D} {S : Store} {Q Q' : DK} (h : ∀ d S, Q d S → Q' d S) (q : iop op x y S Q) : iop op x y S Q' := by
  cases op <;> first
    | exact q
    | (unfold iop at *; dsimp only at q ⊢; (repeat' split at q) <;> first | exact ⟨q.1, h _ _ q.2⟩ | exact h _ _ q | exact q)
theorem itSeq_mono {x : D} {S : Store} {R R' : List D → (Store → Prop) → Prop} (h : ∀ l G, R l G → R' l G) (q : itSeq x S R) : itSeq x S R' := by
  unfold itSeq at *
  (repeat' split at q) <;> first | exact h _ _ q | exact q
def TMono (c : Env → Store → DK → Prop) : Prop := ∀ ρ S (Q Q' : DK), (∀ d S, Q d S → Q' d S) → c ρ S Q → c ρ S Q'
theorem wpLc_mono {t : Tg} {G : Store → Prop} {c e : Env → Store → DK → Prop} {Q Q' : Store → Prop} {n : Nat} {ρ : Env} (hc : TMono c) (he : TMono e) (h : ∀ S, Q S → Q' S) : ∀ (l acc : List D) {S : Store}, wpLc t G c e Q n ρ l acc S → wpLc t G c e Q' n ρ l acc S
  | [], _, _, q => ⟨q.1, h _ q.2⟩
  | d :: r, acc, S, q => by
    refine ⟨q.1, ?_⟩
    have q2 := q.2
    split at q2
    · refine hc _ _ _ _ (fun x S1 q3 => ?_) q2
      split at q3
      · exact he _ _ _ _ (fun y S2 q4 => ⟨q4.1, q4.2.1, wpLc_mono hc he h r _ q4.2.2⟩) q3
      · exact wpLc_mono hc he h r _ q3
      · exact q3
    · exact q2
theorem wpDc_mono {t : Tg} {G : Store → Prop} {c e : Env → Store → DK → Prop} {Q Q' : Store → Prop} {n : Nat} {ρ : Env} (hc : TMono c) (he : TMono e) (h : ∀ S, Q S → Q' S) : ∀ (l : List D) (acc : List (Key × D)) {S : Store}, wpDc t G c e Q n ρ l acc S → wpDc t G c e Q' n ρ l acc S
  | [], _, _, q => ⟨q.1, h _ q.2⟩
  | d :: r, acc, S, q => by
    refine ⟨q.1, ?_⟩
    have q2 := q.2
    split at q2
    · refine hc _ _ _ _ (fun x S1 q3 => ?_) q2
      split at q3
      · exact he _ _ _ _ (fun y S2 q4 => ⟨q4.1, q4.2.1, wpDc_mono hc he h r _ q4.2.2⟩) q3
      · exact q3
    · exact q2
section
variable {F : Sem} (hF : SemMono F)
include hF
mutual
theorem wpE_mono : ∀ (e : E) {ρ : Env} {S : Store} {Q Q' : DK} {X X' : XK}, (∀ d S, Q d S → Q' d S) → (∀ c S, X c S → X' c S) → wpE F e ρ S Q X → wpE F e ρ S Q' X'
  | .bad, _, _, _, _, _, _, _, _, q => q
  | .no, _, _, _, _, _, _, h, _, q => h _ _ q
  | .v i, ρ, _, _, _, _, _, h, _, q => by
    unfold wpE at *
    split at q
    · exact h _ _ q
    · exact q
  | .cst d, _, _, _, _, _, _, h, _, q => h _ _ q
  | .and a b, _, _, _, _, _, _, h, hx, q => wpE_mono a (fun x S1 q1 => by
      split at q1
      · exact wpE_mono b h hx q1
      · exact h _ _ q1
      · exact q1) hx q
  | .or a b, _, _, _, _, _, _, h, hx, q => wpE_mono a (fun x S1 q1 => by
      split at q1
      · exact h _ _ q1
      · exact wpE_mono b h hx q1
      · exact q1) hx q
  | .not a, _, _, _, _, _, _, h, hx, q => wpE_mono a (fun x S1 q1 => by
      split at q1
      · exact h _ _ q1
      · exact q1) hx q
  | .ite c a b, _, _, _, _, _, _, h, hx, q => wpE_mono c (fun x S1 q1 => by
      split at q1
      · exact wpE_mono a h hx q1
      · exact wpE_mono b h hx q1
      · exact q1) hx q
  | .bin op a b, _, _, _, _, _, _, h, hx, q => wpE_mono a (fun x S1 q1 => wpE_mono b (fun y S2 q2 => bop_mono h q2) hx q1) hx q
  | .neg a, _, _, _, _, _, _, h, hx, q => wpE_mono a (fun x S1 q1 => by
      split at q1
      · exact h _ _ q1
      · exact q1) hx q
  | .cmp op a b, _, _, _, _, _, _, h, hx, q => wpE_mono a (fun x S1 q1 => wpE_mono b (fun y S2 q2 => cmpB_mono (fun k => h _ _) q2) hx q1) hx q
  | .chn op op2 a b c, _, _, _, _, _, _, h, hx, q => wpE_mono a (fun x S1 q1 => wpE_mono b (fun y S2 q2 => cmpB_mono (fun k q3 => by
      cases k with
      | true => exact wpE_mono c (fun z S3 q4 => cmpB_mono (fun k => h _ _) q4) hx q3
      | false => exact h _ _ q3) q2) hx q1) hx q
  | .ix a i, _, _, _, _, _, _, h, hx, q => wpE_mono a (fun x S1 q1 => wpE_mono i (fun y S2 q2 => ixD_mono h q2) hx q1) hx q
  | .sl a lo hi, _, _, _, _, _, _, h, hx, q => wpE_mono a (fun x S1 q1 => wpE_mono lo (fun y S2 q2 => by
      split at q2
      · refine wpE_mono hi (fun z S3 q3 => ?_) hx q2
        split at q3
        · exact slD_mono h q3
        · exact q3
      · exact q2) hx q1) hx q
  | .rev a, _, _, _, _, _, _, h, hx, q => wpE_mono a (fun x S1 q1 => by
      (repeat' split at q1) <;> first | exact h _ _ q1 | exact q1) hx q
  | .dct ks vs, _, _, _, _, _, _, h, hx, q => wpEs_mono ks (fun xs S1 q1 => wpEs_mono vs (fun ys S2 q2 => by
      split at q2
      · exact h _ _ q2
      · exact q2) hx q1) hx q
  | .bm m o es, _, _, _, _, _, _, h, hx, q => wpE_mono o (fun x S1 q1 => ⟨q1.1, wpEs_mono es (fun ds S2 q2 => bm_mono h q2) hx q1.2⟩) hx q
  | .attr c o f, _, _, _, _, _, _, h, hx, q => wpE_mono o (fun x S1 q1 => by
      (repeat' split at q1) <;> first | exact ⟨q1.1, h _ _ q1.2⟩ | exact q1) hx q
  | .meth c m f o es, _, _, _, _, _, _, h, hx, q => wpE_mono o (fun x S1 q1 => by
      split at q1
      · exact ⟨q1.1, q1.2.1, wpEs_mono es (fun ds S2 q2 => hF _ _ _ _ _ _ _ h hx q2) hx q1.2.2⟩
      · exact q1) hx q
  | .make c f es, _, _, _, _, _, _, h, hx, q => wpEs_mono es (fun ds S1 q1 => hF _ _ _ _ _ _ _ (fun d S2 q2 => ⟨q2.1, h _ _ q2.2⟩) hx q1) hx q
  | .lc own t it c e, _, _, _, _, _, _, h, hx, q => by
    have hc : TMono (fun ρ S Q => wpE F c ρ S Q noX) := fun ρ S Q Q' k z => wpE_mono c k (fun _ _ z => z) z
    have he : TMono (fun ρ S Q => wpE F e ρ S Q noX) := fun ρ S Q Q' k z => wpE_mono e k (fun _ _ z => z) z
    exact wpIt_mono it (fun l G S1 q1 => wpLc_mono hc he (fun S => h _ S) l [] q1) hx q
  | .dc own t it c e, _, _, _, _, _, _, h, hx, q => by
    have hc : TMono (fun ρ S Q => wpE F c ρ S Q noX) := fun ρ S Q Q' k z => wpE_mono c k (fun _ _ z => z) z
    have he : TMono (fun ρ S Q => wpE F e ρ S Q noX) := fun ρ S Q Q' k z => wpE_mono e k (fun _ _ z => z) z
    exact wpIt_mono it (fun l G S1 q1 => wpDc_mono hc he (fun S => h _ S) l [] q1) hx q
  | .tup es, _, _, _, _, _, _, h, hx, q => wpEs_mono es (fun xs S1 q1 => ⟨q1.1, h _ _ q1.2⟩) hx q
  | .lst es, _, _, _, _, _, _, h, hx, q => wpEs_mono es (fun xs S1 q1 => ⟨q1.1, h _ _ q1.2⟩) hx q
  | .call f es, _, _, _, _, _, _, h, hx, q => wpEs_mono es (fun xs S1 q1 => hF _ _ _ _ _ _ _ h hx q1) hx q
  | .calld f es d, _, _, _, _, _, _, h, hx, q => wpEs_mono es (fun xs S1 q1 => hF _ _ _ _ _ _ _ h hx q1) hx q
  | .callk f es k, _, _, _, _, _, _, h, hx, q => wpEs_mono es (fun xs S1 q1 => wpE_mono k (fun z S2 q2 => hF _ _ _ _ _ _ _ h hx q2) hx q1) hx q
  | .blt b es, _, _, _, _, _, _, h, hx, q => wpEs_mono es (fun xs S1 q1 => bt_mono h q1) hx q
theorem wpEs_mono : ∀ (es : Es) {ρ : Env} {S : Store} {Q Q' : List D → Store → Prop} {X X' : XK}, (∀ d S, Q d S → Q' d S) → (∀ c S, X c S → X' c S) → wpEs F es ρ S Q X → wpEs F es ρ S Q' X'
  | .nil, _, _, _, _, _, _, h, _, q => h _ _ q
  | .cons e es, _, _, _, _, _, _, h, hx, q => wpE_mono e (fun x S1 q1 => wpEs_mono es (fun xs S2 q2 => h _ _ q2) hx q1) hx q
theorem wpIt_mono : ∀ (it : It) {ρ : Env} {S : Store} {R R' : List D → (Store → Prop) → Store → Prop} {X X' : XK}, (∀ l G S, R l G S → R' l G S) → (∀ c S, X c S → X' c S) → wpIt F it ρ S R X → wpIt F it ρ S R' X'
  | .seq e, _, _, _, _, _, _, h, hx, q => wpE_mono e (fun x S1 q1 => itSeq_mono (fun l G => h l G S1) q1) hx q
  | .enum e, _, _, _, _, _, _, h, hx, q => wpE_mono e (fun x S1 q1 => itSeq_mono (fun l G => h _ G S1) q1) hx q
  | .rng a b, _, _, _, _, _, _, h, hx, q => wpE_mono a (fun x S1 q1 => wpE_mono b (fun y S2 q2 => by
      (repeat' split at q2) <;> first | exact ⟨q2.1, q2.2.1, q2.2.2.1, q2.2.2.2.1, h _ _ _ q2.2.2.2.2⟩ | exact q2) hx q1) hx q
  | .rngd a b, _, _, _, _, _, _, h, hx, q => wpE_mono a (fun x S1 q1 => wpE_mono b (fun y S2 q2 => by
      (repeat' split at q2) <;> first | exact ⟨q2.1, q2.2.1, q2.2.2.1, q2.2.2.2.1, h _ _ _ q2.2.2.2.2⟩ | exact q2) hx q1) hx q
  | .rng2 a b, _, _, _, _, _, _, h, hx, q => wpE_mono a (fun x S1 q1 => wpE_mono b (fun y S2 q2 => by
      (repeat' split at q2) <;> first | exact ⟨q2.1, q2.2.1, q2.2.2.1, q2.2.2.2.1, h _ _ _ q2.2.2.2.2⟩ | exact q2) hx q1) hx q
  | .keys e, _, _, _, _, _, _, h, hx, q => wpE_mono e (fun x S1 q1 => by
      split at q1
      · split at q1
        · exact h _ _ _ q1
        · exact q1
      · exact q1) hx q
end
end
theorem wpEs_len {F : Sem} (hF : SemMono F) : ∀ (es : Es) {ρ : Env} {S : Store} {Q : List D → Store → Prop} {X : XK}, wpEs F es ρ S Q X → wpEs F es ρ S (fun ds S => Q ds S ∧ ds.length = es.len) X
  | .nil, _, _, _, _, q => ⟨q, rfl⟩
  | .cons e es, _, _, _, _, q => wpE_mono hF e (fun x S1 q1 => wpEs_mono hF es (fun xs S2 q2 => ⟨q2.1, by rw [List.length_cons, q2.2]; rfl⟩) (fun _ _ z => z) (wpEs_len hF es q1)) (fun _ _ z => z) q
structure Ends.le (K K' : Ends) : Prop where
  nx : ∀ ρ S, K.nx ρ S → K'.nx ρ S
  rt : ∀ d S, K.rt d S → K'.rt d S
  bk : ∀ ρ S, K.bk ρ S → K'.bk ρ S
  ct : ∀ ρ S, K.ct ρ S → K'.ct ρ S
  xc : ∀ c S, K.xc c S → K'.xc c S
def BMono (b : Ends → Env → Store → Prop) : Prop := ∀ K K' ρ S, Ends.le K K' → b K ρ S → b K' ρ S
theorem wpFor_mono {t : Tg} {G : Store → Prop} {b : Ends → Env → Store → Prop} {K K' : Ends} (hb : BMono b) (h : Ends.le K K') : ∀ (l : List D) {ρ : Env} {S : Store}, wpFor t G b K l ρ S → wpFor t G b K' l ρ S
  | [], _, _, q => ⟨q.1, h.nx _ _ q.2⟩
  | d :: r, ρ, S, q => by
    refine ⟨q.1, ?_⟩
    have q2 := q.2
    split at q2
    · exact hb { K with nx := wpFor t G b K r, ct := wpFor t G b K r, bk := K.nx } _ _ _ ⟨fun _ _ => wpFor_mono hb h r, h.rt, h.nx, fun _ _ => wpFor_mono hb h r, h.xc⟩ q2
    · exact q2
theorem wpWh_mono {c c' : Env → Store → DK → Prop} {b : Ends → Env → Store → Prop} {K K' : Ends} (hc : ∀ ρ S (Q Q' : DK), (∀ d S, Q d S → Q' d S) → c ρ S Q → c' ρ S Q') (hb : BMono b) (h : Ends.le K K') : ∀ (n : Nat) {ρ : Env} {S : Store}, wpWh c b K n ρ S → wpWh c' b K' n ρ S
  | 0, _, _, q => q
  | n + 1, ρ, S, q => hc _ _ _ _ (fun x S1 q1 => by
      split at q1
      · exact hb { K with nx := wpWh c b K n, ct := wpWh c b K n, bk := K.nx } _ _ _ ⟨fun _ _ => wpWh_mono hc hb h n, h.rt, h.nx, fun _ _ => wpWh_mono hc hb h n, h.xc⟩ q1
      · exact h.nx _ _ q1
      · exact q1) q
section
variable {F : Sem} (hF : SemMono F)
include hF
mutual
theorem wpC_mono : ∀ (c : C) {K K' : Ends} {ρ : Env} {S : Store}, Ends.le K K' → wpC F c K ρ S → wpC F c K' ρ S
  | .bad, _, _, _, _, _, q => q
  | .set i e, _, _, _, _, h, q => wpE_mono hF e (fun x S1 => h.nx _ _) h.xc q
  | .asg t e, _, _, _, _, h, q => wpE_mono hF e (fun x S1 q1 => by
      split at q1
      · exact h.nx _ _ q1
      · exact q1) h.xc q
  | .par i j a b, _, _, _, _, h, q => wpE_mono hF a (fun x S1 q1 => wpE_mono hF b (fun y S2 => h.nx _ _) h.xc q1) h.xc q
  | .star i j e, _, _, _, _, h, q => wpE_mono hF e (fun x S1 q1 => by
      split at q1
      · exact h.nx _ _ q1
      · exact q1) h.xc q
  | .unp i j e, _, _, _, _, h, q => wpE_mono hF e (fun x S1 q1 => by
      split at q1
      · exact h.nx _ _ q1
      · exact q1) h.xc q
  | .setA c o f e, _, _, _, _, h, q => wpE_mono hF e (fun x S1 q1 => wpE_mono hF o (fun y S2 q2 => setAt_mono (fun S => h.nx _ _) q2) h.xc q1) h.xc q
  | .aug i op e, _, _, ρ, _, h, q => by
    unfold wpC at *
    split at q
    · exact wpE_mono hF e (fun y S1 q1 => iop_mono (fun z S2 => h.nx _ _) q1) h.xc q
    · exact q
  | .augA c o f op e, _, _, _, _, h, q => wpE_mono hF o (fun x S1 q1 => by
      (repeat' split at q1) <;> first | exact ⟨q1.1, wpE_mono hF e (fun y S2 q2 => iop_mono (fun z S3 q3 => setAt_mono (fun S4 => h.nx _ _) q3) q2) h.xc q1.2⟩ | exact q1) h.xc q
  | .augX o i op e, _, _, _, _, h, q => wpE_mono hF o (fun x S1 q1 => wpE_mono hF i (fun y S2 q2 => ixD_mono (fun z S3 q3 => wpE_mono hF e (fun w S4 q4 => iop_mono (fun r S5 q5 => setIx_mono (fun S6 => h.nx _ _) q5) q4) h.xc q3) q2) h.xc q1) h.xc q
  | .pass, _, _, _, _, h, q => h.nx _ _ q
  | .raise c, _, _, _, _, h, q => h.xc _ _ q
  | .setIx o i e, _, _, _, _, h, q => wpE_mono hF e (fun x S1 q1 => wpE_mono hF o (fun y S2 q2 => wpE_mono hF i (fun z S3 q3 => setIx_mono (fun S => h.nx _ _) q3) h.xc q2) h.xc q1) h.xc q
  | .ret e, _, _, _, _, h, q => wpE_mono hF e h.rt h.xc q
  | .ex e, _, _, _, _, h, q => wpE_mono hF e (fun x S1 => h.nx _ _) h.xc q
  | .cond c a b, _, _, _, _, h, q => wpE_mono hF c (fun x S1 q1 => by
      split at q1
      · exact wpCs_mono a h q1
      · exact wpCs_mono b h q1
      · exact q1) h.xc q
  | .whl c b, _, _, _, _, h, q => by
    obtain ⟨n, q⟩ := q
    have hb : BMono (wpCs F b) := fun K K' ρ S hk qq => wpCs_mono b hk qq
    refine ⟨n, wpWh_mono ?_ hb h n q⟩
    exact fun ρ S Q Q' hq qq => wpE_mono hF c hq h.xc qq
  | .for_ t it b, K, K', ρ, S, h, q => by
    have hb : BMono (wpCs F b) := fun K K' ρ S hk qq => wpCs_mono b hk qq
    exact wpIt_mono hF it (R := fun l G S1 => wpFor t G (wpCs F b) K l ρ S1) (fun l G S1 q1 => wpFor_mono hb h l q1) h.xc q
theorem wpCs_mono : ∀ (cs : Cs) {K K' : Ends} {ρ : Env} {S : Store}, Ends.le K K' → wpCs F cs K ρ S → wpCs F cs K' ρ S
  | .nil, _, _, _, _, h, q => h.nx _ _ q
  | .cons c cs, K, K', _, _, h, q => wpC_mono c (K := { K with nx := fun ρ1 S1 => wpCs F cs K ρ1 S1 }) ⟨fun ρ S q1 => wpCs_mono cs h q1, h.rt, h.bk, h.ct, h.xc⟩ q
end
end
theorem callN_mono (P : Prog) : ∀ n, SemMono (callN P n)
  | 0 => fun _ _ _ _ _ _ _ _ _ q => q
  | n + 1 => fun f ds S Q Q' X X' h hx q => by
    unfold callN at *
    split at q
    · exact ⟨q.1, wpCs_mono (callN_mono P n) _ (K := rtEnds Q X) ⟨fun _ S => h _ S, h, fun _ _ z => z, fun _ _ z => z, hx⟩ q.2⟩
    · exact q
end Mn

/-! How a store stands in the layer's heap. -/
namespace Mn
open PySem PySem.Spec PyProof.Rows L2
abbrev Fg := PySem.W.Frag
/-- a list that is read alone: locked, or of the written part -/
def PersL (K : Fg) (H : Hp) (a : Addr) (vs : List V) : Prop := (∃ o, H a = some (.frz o (.lst vs))) ∨
  ∃ (o : Obj) (its : Array Value) (n : Nat), K.lookup a = some o ∧ o.cls = .type "list" ∧ o.dict = none ∧ o.data = .seq its n ∧ its.size ≤ sizeLine ∧ Vals vs its.toList
theorem PersL.sq {K : Fg} {H : Hp} {a : Addr} {vs : List V} (h : PersL K H a vs) : SqL K H a vs := by
  rcases h with ⟨o, h⟩ | h
  · exact .inl (.inr ⟨o, h⟩)
  · exact .inr h
mutual
inductive RD (K : Fg) (m : List Addr) (H : Hp) : D → V → Prop
  | non : RD K m H .non .non
  | bl (b : Bool) : RD K m H (.bl b) (.bl b)
  | int (i : Int) : RD K m H (.int i) (.int i)
  | str (x : Str) : RD K m H (.str x) (.str x)
  | tup {a : Addr} {vs : List V} {ds : List D} : SqT K H a vs → RDs K m H ds vs → RD K m H (.tup ds) (.ref a)
  | fl {a : Addr} {vs : List V} {ds : List D} : PersL K H a vs → RDs K m H ds vs → RD K m H (.fl ds) (.ref a)
  | ref {n : Nat} {a : Addr} : m[n]? = some a → RD K m H (.ref n) (.ref a)
inductive RDs (K : Fg) (m : List Addr) (H : Hp) : List D → List V → Prop
  | nil : RDs K m H [] []
  | cons {d : D} {ds : List D} {v : V} {vs : List V} : RD K m H d v → RDs K m H ds vs → RDs K m H (d :: ds) (v :: vs)
end
/-- tuples and what is locked stay, the places of the store stay -/
structure Le (m : List Addr) (H : Hp) (m' : List Addr) (H' : Hp) : Prop where
  pre : ∀ (n : Nat) (a : Addr), m[n]? = some a → m'[n]? = some a
  tup : ∀ (a : Addr) (vs : List V), H a = some (.tup vs) → H' a = some (.tup vs)
  frz : ∀ (a : Addr) (o : Obj) (u : HO), H a = some (.frz o u) → H' a = some (.frz o u)
theorem Le.refl (m : List Addr) (H : Hp) : Le m H m H := ⟨fun _ _ h => h, fun _ _ h => h, fun _ _ _ h => h⟩
theorem Le.trans {m m1 m2 : List Addr} {H H1 H2 : Hp} (x : Le m H m1 H1) (y : Le m1 H1 m2 H2) : Le m H m2 H2 :=
  ⟨fun n a h => y.pre n a (x.pre n a h), fun a vs h => y.tup a vs (x.tup a vs h), fun a o u h => y.frz a o u (x.frz a o u h)⟩
section
variable {K : Fg} {m m' : List Addr} {H H' : Hp}
theorem Le.sqT (x : Le m H m' H') {a : Addr} {vs : List V} (h : SqT K H a vs) : SqT K H' a vs := by
  rcases h with (h | ⟨o, h⟩) | h
  · exact .inl (.inl (x.tup _ _ h))
  · exact .inl (.inr ⟨o, x.frz _ _ _ h⟩)
  · exact .inr h
theorem Le.pers (x : Le m H m' H') {a : Addr} {vs : List V} (h : PersL K H a vs) : PersL K H' a vs := by
  rcases h with ⟨o, h⟩ | h
  · exact .inl ⟨o, x.frz _ _ _ h⟩
  · exact .inr h
mutual
theorem RD.mono (x : Le m H m' H') : ∀ {d : D} {v : V}, RD K m H d v → RD K m' H' d v
  | _, _, .non => .non
  | _, _, .bl b => .bl b
  | _, _, .int i => .int i
  | _, _, .str s => .str s
  | _, _, .tup h r => .tup (x.sqT h) (RDs.mono x r)
  | _, _, .fl h r => .fl (x.pers h) (RDs.mono x r)
  | _, _, .ref h => .ref (x.pre _ _ h)
theorem RDs.mono (x : Le m H m' H') : ∀ {ds : List D} {vs : List V}, RDs K m H ds vs → RDs K m' H' ds vs
  | _, _, .nil => .nil
  | _, _, .cons r rs => .cons (RD.mono x r) (RDs.mono x rs)
end
theorem RDs.length : ∀ {ds : List D} {vs : List V}, RDs K m H ds vs → ds.length = vs.length
  | _, _, .nil => rfl
  | _, _, .cons _ rs => by rw [List.length_cons, List.length_cons, RDs.length rs]
theorem RDs.get : ∀ {ds : List D} {vs : List V} {i : Nat} {d : D}, RDs K m H ds vs → ds[i]? = some d → ∃ v, vs[i]? = some v ∧ RD K m H d v
  | _, _, _, _, .nil, e => by simp at e
  | _, _, 0, _, .cons r _, e => by simp at e; subst e; exact ⟨_, rfl, r⟩
  | _, _, i + 1, d, .cons _ t, e => by
    obtain ⟨u, h1, h2⟩ := RDs.get (i := i) (d := d) t (by simpa using e)
    exact ⟨u, by simpa using h1, h2⟩
theorem RDs.getV : ∀ {ds : List D} {vs : List V} {i : Nat} {v : V}, RDs K m H ds vs → vs[i]? = some v → ∃ d, ds[i]? = some d ∧ RD K m H d v
  | _, _, _, _, .nil, e => by simp at e
  | _, _, 0, _, .cons r _, e => by simp at e; subst e; exact ⟨_, rfl, r⟩
  | _, _, i + 1, d, .cons _ t, e => by
    obtain ⟨u, h1, h2⟩ := RDs.getV (i := i) (v := d) t (by simpa using e)
    exact ⟨u, by simpa using h1, h2⟩
theorem RDs.append : ∀ {ds es : List D} {vs us : List V}, RDs K m H ds vs → RDs K m H es us → RDs K m H (ds ++ es) (vs ++ us)
  | _, _, _, _, .nil, s => s
  | _, _, _, _, .cons r t, s => .cons r (RDs.append t s)
theorem RDs.take : ∀ {ds : List D} {vs : List V} (n : Nat), RDs K m H ds vs → RDs K m H (ds.take n) (vs.take n)
  | _, _, 0, _ => .nil
  | _, _, _ + 1, .nil => .nil
  | _, _, n + 1, .cons r t => .cons r (RDs.take n t)
theorem RDs.drop : ∀ {ds : List D} {vs : List V} (n : Nat), RDs K m H ds vs → RDs K m H (ds.drop n) (vs.drop n)
  | _, _, 0, r => r
  | _, _, _ + 1, .nil => .nil
  | _, _, n + 1, .cons _ t => RDs.drop n t
theorem RDs.set {d : D} {v : V} (r : RD K m H d v) : ∀ {ds : List D} {vs : List V} (i : Nat), RDs K m H ds vs → RDs K m H (ds.set i d) (vs.set i v)
  | _, _, _, .nil => .nil
  | _, _, 0, .cons _ t => .cons r t
  | _, _, i + 1, .cons q t => .cons q (RDs.set r i t)
theorem RDs.eraseIdx : ∀ {ds : List D} {vs : List V} (i : Nat), RDs K m H ds vs → RDs K m H (ds.eraseIdx i) (vs.eraseIdx i)
  | _, _, _, .nil => .nil
  | _, _, 0, .cons _ t => t
  | _, _, i + 1, .cons q t => .cons q (RDs.eraseIdx i t)
theorem RDs.reverse {ds : List D} {vs : List V} (r : RDs K m H ds vs) : RDs K m H ds.reverse vs.reverse := by
  induction ds generalizing vs with
  | nil => cases r; exact .nil
  | cons d ds ih =>
    cases r with
    | cons q t =>
      rw [List.reverse_cons, List.reverse_cons]
      exact (ih t).append (.cons q .nil)
theorem RDs.replicate {ds : List D} {vs : List V} (r : RDs K m H ds vs) : ∀ n : Nat, RDs K m H (List.replicate n ds).flatten (List.replicate n vs).flatten
  | 0 => .nil
  | n + 1 => by
    rw [List.replicate_succ, List.replicate_succ, List.flatten_cons, List.flatten_cons]
    exact r.append (RDs.replicate r n)
end
/-- pairs by names -/
inductive KR {κ : Type} (K : Fg) (m : List Addr) (H : Hp) : List (κ × D) → List (κ × V) → Prop
  | nil : KR K m H [] []
  | cons {k : κ} {d : D} {v : V} {l : List (κ × D)} {kvs : List (κ × V)} : RD K m H d v → KR K m H l kvs → KR K m H ((k, d) :: l) ((k, v) :: kvs)
section
variable {κ : Type} {K : Fg} {m m' : List Addr} {H H' : Hp}
theorem KR.mono (x : Le m H m' H') : ∀ {l : List (κ × D)} {kvs : List (κ × V)}, KR K m H l kvs → KR K m' H' l kvs
  | _, _, .nil => .nil
  | _, _, .cons r q => .cons (r.mono x) (KR.mono x q)
theorem KR.length : ∀ {l : List (κ × D)} {kvs : List (κ × V)}, KR K m H l kvs → l.length = kvs.length
  | _, _, .nil => rfl
  | _, _, .cons _ q => by rw [List.length_cons, List.length_cons, KR.length q]
theorem KR.get [DecidableEq κ] (k : κ) : ∀ {l : List (κ × D)} {kvs : List (κ × V)}, KR K m H l kvs → (∃ d v, (l.find? fun kv => decide (kv.1 = k)).map (·.2) = some d ∧ valV kvs k = some v ∧ RD K m H d v) ∨ ((l.find? fun kv => decide (kv.1 = k)).map (·.2) = none ∧ valV kvs k = none)
  | _, _, .nil => .inr ⟨rfl, rfl⟩
  | _, _, .cons (k := c) r q => by
    by_cases e : c = k
    · subst e
      exact .inl ⟨_, _, by simp, by simp [valV], r⟩
    · rcases KR.get k q with ⟨d, v, h1, h2, h3⟩ | ⟨h1, h2⟩
      · exact .inl ⟨d, v, by rw [List.find?_cons]; simpa [e] using h1, by rw [valV_neg e]; exact h2, h3⟩
      · exact .inr ⟨by rw [List.find?_cons]; simpa [e] using h1, by rw [valV_neg e]; exact h2⟩
theorem KR.any [DecidableEq κ] (k : κ) : ∀ {l : List (κ × D)} {kvs : List (κ × V)}, KR K m H l kvs → (l.any fun kv => decide (kv.1 = k)) = kvs.any fun kv => decide (kv.1 = k)
  | _, _, .nil => rfl
  | _, _, .cons r q => by rw [List.any_cons, List.any_cons, KR.any k q]
theorem KR.append : ∀ {l l' : List (κ × D)} {kvs kvs' : List (κ × V)}, KR K m H l kvs → KR K m H l' kvs' → KR K m H (l ++ l') (kvs ++ kvs')
  | _, _, _, _, .nil, s => s
  | _, _, _, _, .cons r q, s => .cons r (KR.append q s)
theorem KR.upd [DecidableEq κ] {k : κ} {d : D} {v : V} (rd : RD K m H d v) : ∀ {l : List (κ × D)} {kvs : List (κ × V)}, KR K m H l kvs → KR K m H (l.map fun kv => if kv.1 = k then (kv.1, d) else kv) (kvs.map fun kv => if kv.1 = k then (kv.1, v) else kv)
  | _, _, .nil => .nil
  | _, _, .cons (k := c) r q => by
    rw [List.map_cons, List.map_cons]
    by_cases e : c = k
    · simp only [e, if_true]
      exact .cons rd (KR.upd rd q)
    · simp only [e, if_false]
      exact .cons r (KR.upd rd q)
theorem KR.drop [DecidableEq κ] (k : κ) : ∀ {l : List (κ × D)} {kvs : List (κ × V)}, KR K m H l kvs → KR K m H (l.filter fun kv => decide (kv.1 ≠ k)) (kvs.filter fun kv => decide (kv.1 ≠ k))
  | _, _, .nil => .nil
  | _, _, .cons (k := c) r q => by
    rw [List.filter_cons, List.filter_cons]
    by_cases e : c = k
    · simp only [e]
      simpa using KR.drop k q
    · simp only [ne_eq, e, not_false_eq_true, decide_true, if_true]
      exact .cons r (KR.drop k q)
theorem KR.lookup [BEq κ] (k : κ) : ∀ {l : List (κ × D)} {kvs : List (κ × V)}, KR K m H l kvs → (∃ d v, l.lookup k = some d ∧ kvs.lookup k = some v ∧ RD K m H d v) ∨ (l.lookup k = none ∧ kvs.lookup k = none)
  | _, _, .nil => .inr ⟨rfl, rfl⟩
  | _, _, .cons (k := c) r q => by
    rw [List.lookup_cons, List.lookup_cons]
    cases k == c with
    | true => exact .inl ⟨_, _, rfl, rfl, r⟩
    | false => exact KR.lookup k q
end
/-- an object of the store stands at a -/
def RO (K : Fg) (cl : Nat → Option Addr) (m : List Addr) (H : Hp) (a : Addr) : Ob → Prop
  | .lst l => ∃ vs, H a = some (.lst vs) ∧ RDs K m H l vs
  | .dct l => ∃ kvs, H a = some (.dK kvs) ∧ KR K m H l kvs
  | .fdct l => ∃ o kvs, H a = some (.frz o (.dK kvs)) ∧ KR K m H l kvs
  | .ins c fs => ∃ C dx gs, cl c = some C ∧ H a = some (.ins C dx gs) ∧ KR K m H fs gs
structure RS (K : Fg) (cl : Nat → Option Addr) (m : List Addr) (H : Hp) (S : Store) : Prop where
  len : m.length = S.length
  nd : ∀ (i j : Nat) (a : Addr), m[i]? = some a → m[j]? = some a → i = j
  at_ : ∀ (n : Nat) (a : Addr) (o : Ob), m[n]? = some a → S[n]? = some o → RO K cl m H a o
section
variable {K : Fg} {cl : Nat → Option Addr} {m m' : List Addr} {H H' : Hp} {S : Store} {a : Addr} {o : Ob}
theorem RO.there (r : RO K cl m H a o) : ∃ u, H a = some u := by
  cases o with
  | lst l => obtain ⟨vs, h, _⟩ := r; exact ⟨_, h⟩
  | dct l => obtain ⟨vs, h, _⟩ := r; exact ⟨_, h⟩
  | fdct l => obtain ⟨o, vs, h, _⟩ := r; exact ⟨_, h⟩
  | ins c fs => obtain ⟨C, dx, gs, _, h, _⟩ := r; exact ⟨_, h⟩
theorem RO.keep (r : RO K cl m H a o) (x : Le m H m' H') (k : ∀ u, H a = some u → H' a = some u) : RO K cl m' H' a o := by
  cases o with
  | lst l => obtain ⟨vs, h, q⟩ := r; exact ⟨vs, k _ h, q.mono x⟩
  | dct l => obtain ⟨vs, h, q⟩ := r; exact ⟨vs, k _ h, q.mono x⟩
  | fdct l => obtain ⟨o, vs, h, q⟩ := r; exact ⟨o, vs, k _ h, q.mono x⟩
  | ins c fs => obtain ⟨C, dx, gs, hc, h, q⟩ := r; exact ⟨C, dx, gs, hc, k _ h, q.mono x⟩
theorem RS.get (R : RS K cl m H S) {n : Nat} {o : Ob} (e : S[n]? = some o) : ∃ a, m[n]? = some a ∧ RO K cl m H a o := by
  have h1 : n < S.length := (List.getElem?_eq_some_iff.mp e).1
  have h2 : n < m.length := by rw [R.len]; exact h1
  exact ⟨m[n], List.getElem?_eq_getElem h2, R.at_ _ _ _ (List.getElem?_eq_getElem h2) e⟩
theorem RS.obj (R : RS K cl m H S) {n : Nat} {a : Addr} (e : m[n]? = some a) : ∃ o, S[n]? = some o ∧ RO K cl m H a o := by
  have h1 : n < m.length := (List.getElem?_eq_some_iff.mp e).1
  have h2 : n < S.length := by rw [← R.len]; exact h1
  exact ⟨S[n], List.getElem?_eq_getElem h2, R.at_ _ _ _ e (List.getElem?_eq_getElem h2)⟩
theorem RS.there (R : RS K cl m H S) {n : Nat} {a : Addr} (e : m[n]? = some a) : ∃ u, H a = some u := let ⟨_, _, r⟩ := R.obj e; r.there
/-- a new thing that is not of the store -/
theorem le_new {p : Addr} {u : HO} (np : H p = none) : Le m H m (upd H p u) :=
  ⟨fun _ _ h => h, fun b vs h => by rw [upd_ne (ne_of_none h np)]; exact h, fun b o v h => by rw [upd_ne (ne_of_none h np)]; exact h⟩
theorem RS.new (R : RS K cl m H S) {p : Addr} {u : HO} (np : H p = none) : RS K cl m (upd H p u) S :=
  ⟨R.len, R.nd, fun n a o e1 e2 => (R.at_ n a o e1 e2).keep (le_new np) (fun v h => by rw [upd_ne (ne_of_none h np)]; exact h)⟩
/-- a new list of the store -/
theorem le_push {p : Addr} {u : HO} (np : H p = none) : Le m H (m ++ [p]) (upd H p u) :=
  ⟨fun n a h => by rw [List.getElem?_append_left (List.getElem?_eq_some_iff.mp h).1]; exact h, (le_new (m := m) np).tup, (le_new (m := m) np).frz⟩
theorem RS.push (R : RS K cl m H S) {p : Addr} {u : HO} {o : Ob} (np : H p = none) (r : RO K cl (m ++ [p]) (upd H p u) p o) : RS K cl (m ++ [p]) (upd H p u) (S ++ [o]) where
  len := by rw [List.length_append, List.length_append, R.len]; rfl
  nd := fun i j a hi hj => by
    have key : ∀ k, (m ++ [p])[k]? = some a → (m[k]? = some a ∧ a ≠ p) ∨ (k = m.length ∧ a = p) := fun k hk => by
      by_cases hl : k < m.length
      · rw [List.getElem?_append_left hl] at hk
        obtain ⟨v, hv⟩ := R.there hk
        exact .inl ⟨hk, ne_of_none hv np⟩
      · rw [List.getElem?_append_right (by omega)] at hk
        have h0 : k - m.length = 0 := by
          have := (List.getElem?_eq_some_iff.mp hk).1
          simp at this
          omega
        rw [h0] at hk
        simp at hk
        exact .inr ⟨by omega, hk.symm⟩
    rcases key i hi with ⟨h1, h2⟩ | ⟨h1, h2⟩ <;> rcases key j hj with ⟨h3, h4⟩ | ⟨h3, h4⟩
    · exact R.nd i j a h1 h3
    · exact absurd h4 h2
    · exact absurd h2 h4
    · omega
  at_ := fun n a o' e1 e2 => by
    by_cases hl : n < m.length
    · rw [List.getElem?_append_left hl] at e1
      rw [List.getElem?_append_left (by rw [← R.len]; exact hl)] at e2
      exact (R.at_ n a o' e1 e2).keep (le_push np) (fun v h => by rw [upd_ne (ne_of_none h np)]; exact h)
    · have hn : n = m.length := by
        have := (List.getElem?_eq_some_iff.mp e1).1
        simp at this
        omega
      subst hn
      rw [List.getElem?_append_right (by omega)] at e1
      rw [List.getElem?_append_right (by rw [R.len]; omega)] at e2
      have l := R.len
      simp [l] at e1 e2
      subst e1; subst e2
      exact r
theorem RS.pushL (R : RS K cl m H S) {p : Addr} {ds : List D} {vs : List V} (np : H p = none) (r : RDs K m H ds vs) : RS K cl (m ++ [p]) (upd H p (.lst vs)) (S ++ [.lst ds]) :=
  R.push np ⟨vs, upd_same, r.mono (le_push np)⟩
theorem RS.last (R : RS K cl m H S) (p : Addr) : (m ++ [p])[S.length]? = some p := by
  rw [← R.len]
  simp
/-- an object of the store is written -/
theorem le_set {u u0 : HO} (h0 : H a = some u0) (mu : Mut (some u0)) : Le m H m (upd H a u) := by
  refine ⟨fun _ _ h => h, fun b vs h => ?_, fun b o v h => ?_⟩
  · have hb : b ≠ a := fun z => by rw [z, h0] at h; cases h; exact mu
    rw [upd_ne hb]; exact h
  · have hb : b ≠ a := fun z => by rw [z, h0] at h; cases h; exact mu
    rw [upd_ne hb]; exact h
theorem RS.set (R : RS K cl m H S) {n : Nat} {u u0 : HO} {o : Ob} (e : m[n]? = some a) (h0 : H a = some u0) (mu : Mut (some u0)) (r : RO K cl m (upd H a u) a o) : RS K cl m (upd H a u) (S.set n o) where
  len := by rw [List.length_set]; exact R.len
  nd := R.nd
  at_ := fun k b o' e1 e2 => by
    by_cases hk : k = n
    · subst hk
      rw [e] at e1; cases e1
      have hl : k < S.length := by rw [← R.len]; exact (List.getElem?_eq_some_iff.mp e).1
      rw [List.getElem?_set_self hl] at e2
      cases e2
      exact r
    · rw [List.getElem?_set_ne (Ne.symm hk)] at e2
      have hb : b ≠ a := fun z => hk (R.nd k n a (z ▸ e1) e)
      exact (R.at_ k b o' e1 e2).keep (le_set h0 mu) (fun v h => by rw [upd_ne hb]; exact h)
end
/-- the names -/
structure RE (K : Fg) (m : List Addr) (H : Hp) (ρ : Env) (σ : L2.St) : Prop where
  len : ρ.length = σ.length
  at_ : ∀ (i : Nat) (d : D), ρ[i]? = some (some d) → ∃ v, σ[i]? = some (some v) ∧ RD K m H d v
section
variable {K : Fg} {m m' : List Addr} {H H' : Hp} {ρ : Env} {σ : L2.St}
theorem RE.mono (r : RE K m H ρ σ) (x : Le m H m' H') : RE K m' H' ρ σ := ⟨r.len, fun i d e => let ⟨v, h, q⟩ := r.at_ i d e; ⟨v, h, q.mono x⟩⟩
theorem RE.set (r : RE K m H ρ σ) {d : D} {v : V} (q : RD K m H d v) (i : Nat) : RE K m H (ρ.set i (some d)) (σ.set i (some v)) := by
  refine ⟨by rw [List.length_set, List.length_set]; exact r.len, fun j c e => ?_⟩
  by_cases h : j = i
  · subst h
    by_cases hl : j < ρ.length
    · rw [List.getElem?_set_self hl] at e
      cases e
      exact ⟨v, by rw [List.getElem?_set_self (by rw [← r.len]; exact hl)], q⟩
    · rw [List.getElem?_eq_none (by rw [List.length_set]; omega)] at e
      cases e
  · rw [List.getElem?_set_ne (Ne.symm h)] at e ⊢
    exact r.at_ j c e
end
end Mn

/-! The operators: what the small language asks gives what the layer asks. -/
namespace Mn
open PySem PySem.Spec PyProof.Rows L2
abbrev Cl := Nat → Option Addr
/-- a wish of the small language as one of the layer -/
def up (K : Fg) (cl : Cl) (m : List Addr) (H : Hp) (Q : VK) : DK := fun d S' => ∀ (m' : List Addr) (H' : Hp) (v : V), Le m H m' H' → RS K cl m' H' S' → RD K m' H' d v → Q v H'
def upB (K : Fg) (cl : Cl) (m : List Addr) (H : Hp) (S : Store) (Q : VK) : Bool → Prop := fun b => Q (.bl b) H
theorem lim_le : lim ≤ sizeLine := by rw [sizeLine_eq]; decide
section
variable {X : Cx} {cl : Cl}
/-- two lists, any -/
def rCatS (K : Fg) : R2 := fun x y H Q => ∃ l b xs zs, x = .ref l ∧ y = .ref b ∧ SqL K H l xs ∧ SqL K H b zs ∧ xs.length + zs.length ≤ sizeLine ∧ ∀ p, H p = none → Q (.ref p) (upd H p (.lst (xs ++ zs)))
theorem op_catS : OpR X (binaryOp .Add) (rCatS X.K) := by
  intro pins s σ H x y v u Q I rx ry h
  obtain ⟨l, b, xs, zs, rfl, rfl, hA, hB, hz, q⟩ := h
  cases rx
  cases ry
  obtain ⟨ia, ra, ⟨⟨c1, dd1, dt1, sl1⟩, n1, g1, k1, j1, f1⟩, _⟩ := I.list hA
  obtain ⟨ib, rb, ⟨⟨c2, dd2, dt2, sl2⟩, n2, g2, k2, j2, f2⟩, _⟩ := I.list hB
  dsimp only at k1 j1 f1 k2 j2 f2
  subst k1 j1 f1 k2 j2 f2
  have e1 := ra.length
  have e2 := rb.length
  refine concat_meets ⟨_, g1, rfl⟩ ⟨_, g2, rfl⟩ noFill_list_add seq_list_add PySem.F.slot_list_add PySem.F.entry_list_add
    (PySem.F.args_list_add_2 _ _) (list_addW l b ia.toArray ib.toArray n1 n2 _ _ sl1 sl2 (by simp; omega)) ⟨g1, g2, ?_⟩
  have ea : ia.toArray ++ ib.toArray = (ia ++ ib).toArray := by simp
  rw [ea]
  exact ⟨.ref _, _, I.lnew (t' := s.toks) (ra.append rb) (by rw [List.length_append]; omega), rfl, q _ I.fresh⟩
theorem RDs.nil_iff {K : Fg} {m : List Addr} {H : Hp} {ds : List D} {vs : List V} (r : RDs K m H ds vs) : vs = [] ↔ ds = [] := by
  cases r <;> simp
/-- the items of a list, as they stand -/
theorem RD.lq {K : Fg} {m : List Addr} {H : Hp} {S : Store} {d : D} {v : V} {l : List D} (R : RS K cl m H S) (r : RD K m H d v) (e : lq? S d = some l) : ∃ a vs, v = .ref a ∧ SqL K H a vs ∧ RDs K m H l vs := by
  cases r with
  | fl h q => cases e; exact ⟨_, _, rfl, h.sq, q⟩
  | @ref n a h =>
    have e2 : lst? S n = some l := e
    unfold lst? at e2
    split at e2
    · rename_i l' g
      cases e2
      obtain ⟨vs, h1, h2⟩ := R.at_ n a _ h g
      exact ⟨a, vs, rfl, SqL.of h1, h2⟩
    · cases e2
  | _ => cases e
theorem lst_some {S : Store} {n : Nat} {l : List D} (e : lst? S n = some l) : S[n]? = some (.lst l) := by
  unfold lst? at e
  split at e
  · rename_i l' g
    cases e
    exact g
  · cases e
theorem RD.seq {K : Fg} {m : List Addr} {H : Hp} {S : Store} {d : D} {v : V} {l : List D} (R : RS K cl m H S) (r : RD K m H d v) (e : seq? S d = some l) : ∃ a vs, v = .ref a ∧ (SqL K H a vs ∨ SqT K H a vs) ∧ RDs K m H l vs := by
  cases r with
  | tup h q => cases e; exact ⟨_, _, rfl, .inr h, q⟩
  | fl h q => cases e; exact ⟨_, _, rfl, .inl h.sq, q⟩
  | ref h =>
    obtain ⟨a, vs, h1, h2, h3⟩ := RD.lq R (.ref h) e
    exact ⟨a, vs, h1, .inl h2, h3⟩
  | _ => cases e
theorem sm_log {i : Int} (h : Sm i) : i.natAbs.log2 < 4000 := PySem.Flt.log2_lt_of (by decide) h
theorem sm_bits {i : Int} (h : Sm i) : Builtin.Int.intBits i ≤ 4000 := by
  have := sm_log h
  unfold Builtin.Int.intBits
  split <;> omega
def rB (K : Fg) (cl : Cl) (op : Operator) : R2 := fun x y H Q => ∃ m S dx dy, RS K cl m H S ∧ RD K m H dx x ∧ RD K m H dy y ∧ bop op dx dy S (up K cl m H Q)
theorem bSub_use {dx dy : D} {S : Store} {Q : DK} (h : bSub dx dy S Q) : ∃ i j, dx = .int i ∧ dy = .int j ∧ True ∧ Q (.int (i - j)) S := by
  unfold bSub at h
  split at h
  · exact ⟨_, _, rfl, rfl, trivial, h⟩
  · exact h.elim
theorem bDiv_use {dx dy : D} {S : Store} {Q : DK} (h : bDiv dx dy S Q) : ∃ i j, dx = .int i ∧ dy = .int j ∧ (0 < j ∧ Sm j) ∧ Q (.int (i / j)) S := by
  unfold bDiv at h
  split at h
  · exact ⟨_, _, rfl, rfl, ⟨h.1, h.2.1⟩, h.2.2⟩
  · exact h.elim
theorem bMod_use {dx dy : D} {S : Store} {Q : DK} (h : bMod dx dy S Q) : ∃ i j, dx = .int i ∧ dy = .int j ∧ 0 < j ∧ Q (.int (i % j)) S := by
  unfold bMod at h
  split at h
  · exact ⟨_, _, rfl, rfl, h.1, h.2⟩
  · exact h.elim
theorem bPow_use {dx dy : D} {S : Store} {Q : DK} (h : bPow dx dy S Q) : ∃ i j, dx = .int i ∧ dy = .int j ∧ (0 ≤ j ∧ j ≤ 1000 ∧ Sm i) ∧ Q (.int (i ^ j.toNat)) S := by
  unfold bPow at h
  split at h
  · exact ⟨_, _, rfl, rfl, ⟨h.1, h.2.1, h.2.2.1⟩, h.2.2.2⟩
  · exact h.elim
theorem bShl_use {dx dy : D} {S : Store} {Q : DK} (h : bShl dx dy S Q) : ∃ i j, dx = .int i ∧ dy = .int j ∧ L2.CPow i j ∧ Q (.int (i * 2 ^ j.toNat)) S := by
  unfold bShl at h
  split at h
  · exact ⟨_, _, rfl, rfl, h.1, h.2⟩
  · exact h.elim
theorem bShr_use {dx dy : D} {S : Store} {Q : DK} (h : bShr dx dy S Q) : ∃ i j, dx = .int i ∧ dy = .int j ∧ 0 ≤ j ∧ Q (.int (i / 2 ^ j.toNat)) S := by
  unfold bShr at h
  split at h
  · exact ⟨_, _, rfl, rfl, h.1, h.2⟩
  · exact h.elim
theorem op_pow2 : OpR X (binaryOp .Pow) (rI (fun i j => 0 ≤ j ∧ j ≤ 1000 ∧ Sm i) fun i j => .int (i ^ j.toNat)) := opI fun i j _ _ _ _ _ hc q => by
  refine pow_int hc.1 ?_ q
  have h1 := sm_bits hc.2.2
  have h2 := hc.2.1
  have h3 := hc.1
  have : ((Builtin.Int.intBits i : Nat) : Int) * j ≤ 4000 * 1000 := Int.mul_le_mul (by omega) h2 h3 (by decide)
  omega
theorem up_here {K : Fg} {m : List Addr} {H : Hp} {Q : VK} {d : D} {v : V} {S : Store} (h : up K cl m H Q d S) (R : RS K cl m H S) (r : RD K m H d v) : Q v H := h m H v (Le.refl m H) R r
theorem op_snd (op : Operator) : OpR X (binaryOp op) (rB X.K cl op) := by
  intro pins s σ H x y v u Q I rx ry ⟨m, S, dx, dy, R, r1, r2, h⟩
  cases op with
  | Add =>
    replace h : bAdd dx dy S (up X.K cl m H Q) := h
    unfold bAdd at h
    split at h
    · cases r1; cases r2
      exact op_add pins s σ H _ _ v u Q I rx ry ⟨_, _, rfl, rfl, up_here h R (.int _)⟩
    · cases r1; cases r2
      refine op_add_ib pins s σ H _ _ v u Q I rx ry ⟨_, _, rfl, rfl, ?_⟩
      exact up_here h R (.int _)
    · cases r1 with
      | tup h1 q1 =>
        cases r2 with
        | tup h2 q2 =>
          have hl := lim_le
          have e1 := q1.length
          have e2 := q2.length
          have := h.1
          refine op_catA pins s σ H _ _ v u Q I rx ry ⟨_, _, _, _, rfl, rfl, h1, h2, by omega, fun e => ?_, fun _ e => ?_, fun _ _ p np => ?_⟩
          · have e0 := q1.nil_iff.mp e
            subst e0
            exact up_here h.2 R (.tup h2 q2)
          · have e0 := q2.nil_iff.mp e
            subst e0
            have h3 := h.2
            rw [List.append_nil] at h3
            exact up_here h3 R (.tup h1 q1)
          · exact h.2 m _ _ (le_new np) (R.new np) (.tup (SqT.of upd_same) ((q1.append q2).mono (le_new np)))
    · split at h
      · rename_i l k e1 e2
        obtain ⟨a, vs, rfl, ha, qa⟩ := r1.lq R e1
        obtain ⟨b, us, rfl, hb, qb⟩ := r2.lq R e2
        have hl := lim_le
        have f1 := qa.length
        have f2 := qb.length
        have := h.1
        exact op_catS pins s σ H _ _ v u Q I rx ry ⟨a, b, vs, us, rfl, rfl, ha, hb, by omega, fun p np => h.2 _ _ _ (le_push np) (R.pushL np (qa.append qb)) (.ref (R.last p))⟩
      · exact h.elim
  | Sub =>
    obtain ⟨i, j, rfl, rfl, _, q⟩ := bSub_use h
    cases r1; cases r2
    exact op_sub pins s σ H _ _ v u Q I rx ry ⟨_, _, rfl, rfl, up_here q R (.int _)⟩
  | Mult =>
    replace h : bMul dx dy S (up X.K cl m H Q) := h
    unfold bMul at h
    split at h
    · cases r1; cases r2
      refine op_mulW pins s σ H _ _ v u Q I rx ry ⟨_, _, rfl, rfl, ?_, up_here h.2.2 R (.int _)⟩
      have h1 := sm_log h.1
      have h2 := sm_log h.2.1
      unfold CMulW
      omega
    · split at h
      · rename_i l e1
        cases r2
        cases r1 with
        | ref e =>
          have e2 := lst_some (S := S) e1
          obtain ⟨vs, h1, q1⟩ := R.at_ _ _ _ e e2
          have hl := lim_le
          have f1 := q1.length
          obtain ⟨k0, k1, k2, k3⟩ := h
          refine op_rep pins s σ H _ _ v u Q I rx ry ⟨_, _, vs, rfl, rfl, h1, by omega, by omega, ?_, fun p np => k3 _ _ _ (le_push np) (R.pushL np (q1.replicate _)) (.ref (R.last p))⟩
          rw [← f1]
          omega
      · exact h.elim
    · exact h.elim
  | FloorDiv =>
    obtain ⟨i, j, rfl, rfl, c, q⟩ := bDiv_use h
    cases r1; cases r2
    refine op_fdivW pins s σ H _ _ v u Q I rx ry ⟨_, _, rfl, rfl, ⟨c.1, ?_⟩, up_here q R (.int _)⟩
    have := sm_log c.2
    omega
  | Mod =>
    obtain ⟨i, j, rfl, rfl, c, q⟩ := bMod_use h
    cases r1; cases r2
    exact op_mod pins s σ H _ _ v u Q I rx ry ⟨_, _, rfl, rfl, c, up_here q R (.int _)⟩
  | Pow =>
    obtain ⟨i, j, rfl, rfl, c, q⟩ := bPow_use h
    cases r1; cases r2
    exact op_pow2 pins s σ H _ _ v u Q I rx ry ⟨_, _, rfl, rfl, c, up_here q R (.int _)⟩
  | LShift =>
    obtain ⟨i, j, rfl, rfl, c, q⟩ := bShl_use h
    cases r1; cases r2
    exact op_shl pins s σ H _ _ v u Q I rx ry ⟨_, _, rfl, rfl, c, up_here q R (.int _)⟩
  | RShift =>
    obtain ⟨i, j, rfl, rfl, c, q⟩ := bShr_use h
    cases r1; cases r2
    exact op_shr pins s σ H _ _ v u Q I rx ry ⟨_, _, rfl, rfl, c, up_here q R (.int _)⟩
  | _ => exact (show False from h).elim
end
end Mn

/-! Comparisons. -/
namespace Mn
open PySem PySem.Spec PyProof.Rows L2
section
variable {X : Cx} {cl : Cl} {K : Fg} {m : List Addr} {H : Hp} {S : Store}
mutual
theorem Snap.dp (R : RS K cl m H S) : ∀ {d : D} {p : PyData} {v : V}, Snap S d p → RD K m H d v → Dp K H v p
  | _, _, _, .non, .non => .non
  | _, _, _, .bl b, .bl _ => .bl b
  | _, _, _, .int i, .int _ => .int i
  | _, _, _, .str x, .str _ => .str x
  | _, _, _, .tup s, .tup h q => .tup h (Snaps.dp R s q)
  | _, _, _, .lst e s, r => by
    obtain ⟨a, vs, rfl, h1, h2⟩ := r.lq R e
    exact .lst h1 (Snaps.dp R s h2)
theorem Snaps.dp (R : RS K cl m H S) : ∀ {ds : List D} {ps : List PyData} {vs : List V}, Snaps S ds ps → RDs K m H ds vs → DpAll K H vs ps
  | _, _, _, .nil, .nil => .nil
  | _, _, _, .cons s t, .cons r q => .cons (Snap.dp R s r) (Snaps.dp R t q)
end
theorem RD.flat {d : D} {v : V} (r : RD K m H d v) (h : d.scal = true) : flatV v = true := by
  cases r <;> first | rfl | cases h
theorem RD.sEq {d e : D} {v u : V} (r : RD K m H d v) (q : RD K m H e u) (h : d.scal = true) (h' : e.scal = true) : eqV v u = d.sEq e := by
  cases r <;> first | (cases h; done) | (cases q <;> first | (cases h'; done) | rfl)
theorem RDs.flat : ∀ {ds : List D} {vs : List V}, RDs K m H ds vs → ds.all D.scal = true → vs.all flatV = true
  | _, _, .nil, _ => rfl
  | _, _, .cons r q, h => by
    rw [List.all_cons, Bool.and_eq_true] at h ⊢
    exact ⟨r.flat h.1, RDs.flat q h.2⟩
theorem RDs.inV {x : D} {u : V} (rx : RD K m H x u) (hx : x.scal = true) : ∀ {ds : List D} {vs : List V}, RDs K m H ds vs → ds.all D.scal = true → L2.inV u vs = ds.any fun z => z.sEq x
  | _, _, .nil, _ => rfl
  | _, _, .cons r q, h => by
    rw [List.all_cons, Bool.and_eq_true] at h
    show ((eqV _ u) || L2.inV u _) = _
    rw [List.any_cons, RDs.inV rx hx q h.2, r.sEq rx h.1 hx]
theorem RDs.ints : ∀ {ds : List D} {vs : List V} {ns : List Int}, RDs K m H ds vs → ints? ds = some ns → vs = ns.map V.int
  | _, _, _, .nil, e => by cases e; rfl
  | _, _, _, .cons r q, e => by
    cases r with
    | int i =>
      unfold ints? at e
      cases e2 : ints? _ with
      | none => rw [e2] at e; cases e
      | some ms =>
        rw [e2] at e
        cases e
        rw [RDs.ints q e2]
        rfl
    | _ => cases e
/-- a dict of the store, and a key -/
theorem RD.dct {d : D} {v : V} {kvs : List (Key × D)} (R : RS K cl m H S) (r : RD K m H d v) (e : dct? S d = some kvs) : ∃ n a l, d = .ref n ∧ m[n]? = some a ∧ v = .ref a ∧ S[n]? = some (.dct kvs) ∧ H a = some (.dK l) ∧ KR K m H kvs l := by
  cases r with
  | @ref n a h =>
    unfold dct? at e
    dsimp only at e
    split at e
    · rename_i l g
      cases e
      obtain ⟨l, h1, h2⟩ := R.at_ n a _ h g
      exact ⟨n, a, l, rfl, h, rfl, g, h1, h2⟩
    · cases e
  | _ => cases e
theorem RD.dctr {d : D} {v : V} {kvs : List (Key × D)} (R : RS K cl m H S) (r : RD K m H d v) (e : dctr? S d = some kvs) : ∃ n a l, d = .ref n ∧ m[n]? = some a ∧ v = .ref a ∧ Rd H a (.dK l) ∧ KR K m H kvs l := by
  cases r with
  | @ref n a h =>
    unfold dctr? at e
    dsimp only at e
    split at e
    · rename_i l g
      cases e
      obtain ⟨l, h1, h2⟩ := R.at_ n a _ h g
      exact ⟨n, a, l, rfl, h, rfl, .inl h1, h2⟩
    · rename_i l g
      cases e
      obtain ⟨o, l, h1, h2⟩ := R.at_ n a _ h g
      exact ⟨n, a, l, rfl, h, rfl, .inr ⟨o, h1⟩, h2⟩
    · cases e
  | _ => cases e
theorem dget_rd {H : Hp} {a : Addr} {kvs : List (Key × V)} {k : Key} (e : Rd H a (.dK kvs)) : DGet H a (kV k) (valV kvs k) := .inl ⟨kvs, k, e, rfl, rfl⟩
theorem RD.key {d : D} {v : V} {k : Key} (r : RD K m H d v) (e : keyOf d = some k) : v = kV k := by
  cases r <;> first | (cases e; done) | (cases e; rfl)
theorem KR.dget {kvs : List (Key × D)} {l : List (Key × V)} (q : KR K m H kvs l) (k : Key) : (dGet kvs k).isSome = (valV l k).isSome := by
  rcases q.get k with ⟨d, v, h1, h2, _⟩ | ⟨h1, h2⟩
  · unfold dGet
    rw [h1, h2]
    rfl
  · unfold dGet
    rw [h1, h2]
    rfl
/-- what a comparison of the layer is asked, by the small language's -/
def rC (K : Fg) (cl : Cl) (op : CmpOp) : R2 := fun x y H Q => ∃ m S dx dy, RS K cl m H S ∧ RD K m H dx x ∧ RD K m H dy y ∧ cmpB op dx dy S fun b => Q (.bl b) H
theorem eq_gen (neg : Bool) (hu : X.A.units + 150 < cLine) {pins : List (Addr × Obj)} {s : Shared} {σ : L2.St} {x y : V} {v u : Value} {Q : VK} (I : Inv X pins σ H s) (rx : RelV x v) (ry : RelV y u)
    {p q : PyData} (hp : Dp X.K H x p) (hq : Dp X.K H y q) (c1 : p.canLay0 = true) (c2 : q.canLay0 = true) (hd : min p.depth q.depth ≤ 150) (h : Q (.bl (if neg then !PyData.eqv p q else PyData.eqv p q)) H) :
    wpAny (model X.prog X.w) X.A (compareOp (if neg then .NotEq else .Eq) v u) (EP X pins σ Q) X.xe s := by
  obtain ⟨as, r1⟩ := Dp.reads I p x v hp rx
  obtain ⟨bs, r2⟩ := Dp.reads I q y u hq ry
  cases neg with
  | false => exact SeqAt.compareEq_reads r1 r2 c1 c2 (by omega) ⟨.bl _, H, I, rfl, h⟩
  | true => exact SeqAt.compareNe_reads r1 r2 c1 c2 (by omega) ⟨.bl _, H, I, rfl, h⟩
/-- scalars -/
theorem dec_sEq {d e : D} {v u : V} (r : RD K m H d v) (q : RD K m H e u) (hs : L2.scal v u = true) (h : d.scal = true) (h' : e.scal = true) : decide (v = u) = d.sEq e := by
  cases r <;> first
    | (cases h; done)
    | (cases q <;> first
        | (cases h'; done)
        | (cases hs; done)
        | rfl
        | (simp only [D.sEq, V.bl.injEq, V.int.injEq, V.str.injEq]; rw [Bool.beq_eq_decide_eq])
        | (simp [D.sEq]))
theorem scal_or {d e : D} {v u : V} (r : RD K m H d v) (q : RD K m H e u) (h : d.scal = true) (h' : e.scal = true) : L2.scal v u = true ∨ ∃ p p', Dp K H v p ∧ Dp K H u p' ∧ p.canLay0 = true ∧ p'.canLay0 = true ∧ min p.depth p'.depth ≤ 150 ∧ PyData.eqv p p' = d.sEq e := by
  cases r <;> first
    | (cases h; done)
    | (cases q <;> first
        | (cases h'; done)
        | exact .inl rfl
        | exact .inr ⟨_, _, .bl _, .int _, rfl, rfl, Nat.zero_le _, rfl⟩
        | exact .inr ⟨_, _, .int _, .bl _, rfl, rfl, Nat.zero_le _, rfl⟩)
theorem eq_scal (neg : Bool) (hu : X.A.units + 150 < cLine) {pins : List (Addr × Obj)} {s : Shared} {σ : L2.St} {x y : V} {v u : Value} {Q : VK} (I : Inv X pins σ H s) (rx : RelV x v) (ry : RelV y u)
    {d e : D} (r : RD X.K m H d x) (q : RD X.K m H e y) (h : d.scal = true) (h' : e.scal = true) (hq : Q (.bl (if neg then !d.sEq e else d.sEq e)) H) :
    wpAny (model X.prog X.w) X.A (compareOp (if neg then .NotEq else .Eq) v u) (EP X pins σ Q) X.xe s := by
  rcases scal_or r q h h' with hs | ⟨p, p', h1, h2, c1, c2, hd, he⟩
  · rw [← dec_sEq r q hs h h'] at hq
    cases neg with
    | false => exact op_eq pins s σ H _ _ v u Q I rx ry ⟨hs, hq⟩
    | true => exact op_ne pins s σ H _ _ v u Q I rx ry ⟨hs, hq⟩
  · rw [← he] at hq
    exact eq_gen neg hu I rx ry h1 h2 c1 c2 hd hq
theorem cEq_snd (neg : Bool) (hu : X.A.units + 150 < cLine) {pins : List (Addr × Obj)} {s : Shared} {σ : L2.St} {x y : V} {v u : Value} {Q : VK} (I : Inv X pins σ H s) (rx : RelV x v) (ry : RelV y u)
    {d e : D} (R : RS X.K cl m H S) (r : RD X.K m H d x) (q : RD X.K m H e y) (h : cEq d e S fun b => Q (.bl (if neg then !b else b)) H) :
    wpAny (model X.prog X.w) X.A (compareOp (if neg then .NotEq else .Eq) v u) (EP X pins σ Q) X.xe s := by
  unfold cEq at h
  split at h
  · rename_i hs
    rw [Bool.and_eq_true] at hs
    exact eq_scal neg hu I rx ry r q hs.1 hs.2 h
  · obtain ⟨p, p', s1, s2, c1, c2, hd, h⟩ := h
    exact eq_gen neg hu I rx ry (s1.dp R r) (s2.dp R q) c1 c2 hd h
theorem lexAt_shift (e r : Nat → Bool) (z : Bool) : ∀ k i : Nat, Ob.lexAt (fun j => e (j + 1)) (fun j => r (j + 1)) z i k = Ob.lexAt e r z (i + 1) k
  | 0, _ => rfl
  | k + 1, i => by
    show (if e (i + 1) = true then Ob.lexAt (fun j => e (j + 1)) (fun j => r (j + 1)) z (i + 1) k else r (i + 1)) = (if e (i + 1) = true then Ob.lexAt e r z (i + 1 + 1) k else r (i + 1))
    rw [lexAt_shift e r z k (i + 1)]
theorem lexAt_gt : ∀ ns ms : List Int, Ob.lexAt (fun j => decide (ns.getD j 0 = ms.getD j 0)) (fun j => decide (ms.getD j 0 < ns.getD j 0)) (decide (ns.length > ms.length)) 0 (min ns.length ms.length) = HT.lexLt ms ns
  | [], [] => rfl
  | [], _ :: _ => by simp [Ob.lexAt, HT.lexLt]
  | _ :: _, [] => by simp [Ob.lexAt, HT.lexLt]
  | n :: ns, m :: ms => by
    have ih := lexAt_gt ns ms
    rw [show min (n :: ns).length (m :: ms).length = min ns.length ms.length + 1 by simp, Ob.lexAt_succ, ← lexAt_shift]
    have e : (decide ((n :: ns).length > (m :: ms).length)) = decide (ns.length > ms.length) := by simp
    rw [e]
    show (if decide (n = m) = true then Ob.lexAt (fun j => decide (ns.getD j 0 = ms.getD j 0)) (fun j => decide (ms.getD j 0 < ns.getD j 0)) (decide (ns.length > ms.length)) 0 (min ns.length ms.length) else decide (m < n)) = _
    rw [ih]
    rw [HT.lexLt_cons]
    by_cases h2 : m = n
    · subst h2
      simp
    · have : n ≠ m := fun z => h2 z.symm
      simp [h2, this]
def rGtT (K : PySem.W.Frag) : R2 := fun x y H Q => ∃ (a b : Addr) (ns ms : List Int), x = .ref a ∧ y = .ref b ∧ SqT K H a (ns.map V.int) ∧ SqT K H b (ms.map V.int) ∧ Q (.bl (HT.lexLt ms ns)) H
theorem op_gtT {X : Cx} (hu : X.A.units < cLine) : OpR X (compareOp .Gt) (rGtT X.K) := by
  intro pins s σ H x y v u Q I rx ry h
  obtain ⟨a, b, ns, ms, rfl, rfl, ha, hb, q⟩ := h
  cases rx
  cases ry
  obtain ⟨its, r1, p1, _⟩ := I.tuple ha
  obtain ⟨its2, r2, p2, _⟩ := I.tuple hb
  have i1 : IntsAre its ns := Vals.ints r1
  have i2 : IntsAre its2 ms := Vals.ints r2
  have e1 : its.toArray.size = ns.length := by rw [List.size_toArray]; exact i1.length
  have e2 : its2.toArray.size = ms.length := by rw [List.size_toArray]; exact i2.length
  have at1 : ∀ j (h1 : j < its.toArray.size), ∃ t, its.toArray[j] = .int (ns.getD j 0) t := fun j h1 => PyProof.Rows.IntsAre.int_at i1 _ _ (by simp at h1; simp [h1])
  have at2 : ∀ j (h1 : j < its2.toArray.size), ∃ t, its2.toArray[j] = .int (ms.getD j 0) t := fun j h1 => PyProof.Rows.IntsAre.int_at i2 _ _ (by simp at h1; simp [h1])
  have R := Ob.RcOp.tuples_gt (A := X.A) (s := s) (e := fun j => decide (ns.getD j 0 = ms.getD j 0)) (r := fun j => decide (ms.getD j 0 < ns.getD j 0)) p1 p2 hu (fun j h1 h2 => by
    obtain ⟨t, et⟩ := at1 j h1
    obtain ⟨t', et'⟩ := at2 j h2
    rw [et, et']
    have z : (ns.getD j 0 == ms.getD j 0) = decide (ns.getD j 0 = ms.getD j 0) := by
      by_cases q : ns.getD j 0 = ms.getD j 0
      · rw [decide_eq_true q]; exact beq_iff_eq.mpr q
      · rw [decide_eq_false q]; exact beq_eq_false_iff_ne.mpr q
    rw [← z]
    exact SeqAt.EqAt.int_int _ _ _ _) (fun j h1 h2 _ => by
    obtain ⟨t, et⟩ := at1 j h1
    obtain ⟨t', et'⟩ := at2 j h2
    rw [et, et']
    exact Ob.RcOp.gt_int _ _ _ _)
  rw [e1, e2, lexAt_gt] at R
  have z : wpAny (model X.prog X.w) X.A (compareOp .Gt (.ref a) (.ref b)) (EP X pins σ Q) X.xe s := R X.prog X.w X.xe (EP X pins σ Q) ⟨.bl _, H, I, rfl, q⟩
  exact z
theorem cmp_snd (op : CmpOp) (hu : X.A.units + 150 < cLine) : OpR X (compareOp op) (rC X.K cl op) := by
  intro pins s σ H x y v u Q I rx ry ⟨m, S, dx, dy, R, r1, r2, h⟩
  cases op with
  | Eq => exact cEq_snd false hu I rx ry R r1 r2 h
  | NotEq => exact cEq_snd true hu I rx ry R r1 r2 h
  | Lt =>
    replace h : cLt dx dy fun b => Q (.bl b) H := h
    unfold cLt at h
    split at h
    · cases r1; cases r2
      exact op_lt pins s σ H _ _ v u Q I rx ry ⟨_, _, rfl, rfl, h⟩
    · split at h
      · rename_i ns ms e1 e2
        cases r1 with
        | tup h1 q1 =>
          cases r2 with
          | tup h2 q2 =>
            have f1 := q1.ints e1
            have f2 := q2.ints e2
            subst f1 f2
            exact op_ltT (by omega) pins s σ H _ _ v u Q I rx ry ⟨_, _, ns, ms, rfl, rfl, h1, h2, h⟩
      · exact h.elim
    · exact h.elim
  | LtE =>
    replace h : cLe dx dy fun b => Q (.bl b) H := h
    unfold cLe at h
    split at h
    · cases r1; cases r2
      exact op_le pins s σ H _ _ v u Q I rx ry ⟨_, _, rfl, rfl, h⟩
    · exact h.elim
  | Gt =>
    replace h : cGt dx dy fun b => Q (.bl b) H := h
    unfold cGt at h
    split at h
    · cases r1; cases r2
      exact op_gt pins s σ H _ _ v u Q I rx ry ⟨_, _, rfl, rfl, h⟩
    · split at h
      · rename_i ns ms e1 e2
        cases r1 with
        | tup h1 q1 =>
          cases r2 with
          | tup h2 q2 =>
            have f1 := q1.ints e1
            have f2 := q2.ints e2
            subst f1 f2
            exact op_gtT (by omega) pins s σ H _ _ v u Q I rx ry ⟨_, _, ns, ms, rfl, rfl, h1, h2, h⟩
      · exact h.elim
    · exact h.elim
  | GtE =>
    replace h : cGe dx dy fun b => Q (.bl b) H := h
    unfold cGe at h
    split at h
    · cases r1; cases r2
      exact op_ge pins s σ H _ _ v u Q I rx ry ⟨_, _, rfl, rfl, h⟩
    · exact h.elim
  | Is =>
    replace h : cIs dx dy fun b => Q (.bl b) H := h
    unfold cIs at h
    split at h
    · cases r2
      refine op_isN pins s σ H _ _ v u Q I rx ry ⟨rfl, ?_⟩
      cases r1 <;> exact h
    · split at h
      · cases r1; cases r2
        exact op_isBl pins s σ H _ _ v u Q I rx ry ⟨_, _, rfl, rfl, h⟩
      · exact h.elim
    · exact h.elim
  | IsNot =>
    replace h : cIs dx dy fun b => Q (.bl (!b)) H := h
    unfold cIs at h
    split at h
    · cases r2
      refine op_notN pins s σ H _ _ v u Q I rx ry ⟨rfl, ?_⟩
      cases r1 <;> exact h
    · split at h
      · cases r1; cases r2
        exact op_notBl pins s σ H _ _ v u Q I rx ry ⟨_, _, rfl, rfl, h⟩
      · exact h.elim
    · exact h.elim
  | In =>
    replace h : cIn dx dy S fun b => Q (.bl b) H := h
    unfold cIn at h
    split at h
    · rename_i l e
      obtain ⟨a, vs, rfl, hs, q⟩ := r2.seq R e
      refine op_in_seq pins s σ H _ _ v u Q I rx ry ⟨a, vs, rfl, hs, r1.flat h.1, q.flat h.2.1, ?_⟩
      rw [q.inV r1 h.1 h.2.1]
      exact h.2.2
    · split at h
      · rename_i kvs k e1 e2
        obtain ⟨n, a, l, rfl, hm, rfl, h1, q⟩ := r2.dctr R e1
        have ek := r1.key e2
        subst ek
        rw [q.dget k] at h
        cases ry
        exact d_in (by omega) I (dget_rd h1) rx fun s3 I3 => ⟨.bl _, H, I3, rfl, h⟩
      · exact h.elim
  | NotIn =>
    replace h : cIn dx dy S fun b => Q (.bl (!b)) H := h
    unfold cIn at h
    split at h
    · rename_i l e
      obtain ⟨a, vs, rfl, hs, q⟩ := r2.seq R e
      refine op_notIn_seq pins s σ H _ _ v u Q I rx ry ⟨a, vs, rfl, hs, r1.flat h.1, q.flat h.2.1, ?_⟩
      rw [q.inV r1 h.1 h.2.1]
      exact h.2.2
    · split at h
      · rename_i kvs k e1 e2
        obtain ⟨n, a, l, rfl, hm, rfl, h1, q⟩ := r2.dctr R e1
        have ek := r1.key e2
        subst ek
        rw [q.dget k] at h
        cases ry
        exact d_notIn (by omega) I (dget_rd h1) rx fun s3 I3 => ⟨.bl _, H, I3, rfl, h⟩
      · exact h.elim
end
end Mn

/-! Built-ins and methods: what the small language asks gives what the layer asks. -/
namespace Mn
open PySem PySem.Spec PyProof.Rows L2
def rBt (K : Fg) (cl : Cl) (b : Bt) : List V → Hp → VK → Prop := fun vs H Q => ∃ m S ds, RS K cl m H S ∧ RDs K m H ds vs ∧ bt b ds S (up K cl m H Q)
section
variable {X : Cx} {cl : Cl} {K : Fg} {m : List Addr} {H : Hp} {S : Store}
theorem RDs.one {d : D} {vs : List V} (r : RDs K m H [d] vs) : ∃ v, vs = [v] ∧ RD K m H d v := by
  cases r with
  | cons r1 r2 => cases r2; exact ⟨_, rfl, r1⟩
theorem RDs.two {d e : D} {vs : List V} (r : RDs K m H [d, e] vs) : ∃ v u, vs = [v, u] ∧ RD K m H d v ∧ RD K m H e u := by
  cases r with
  | cons r1 r2 =>
    obtain ⟨u, rfl, r3⟩ := r2.one
    exact ⟨_, _, rfl, r1, r3⟩
theorem RDs.keys : ∀ {l : List (Key × D)} {kvs : List (Key × V)}, KR K m H l kvs → RDs K m H (l.map fun kv => keyD kv.1) (kvs.map fun kv => kV kv.1)
  | _, _, .nil => .nil
  | _, _, .cons (k := k) r q => .cons (by cases k <;> constructor) (RDs.keys q)
theorem blt_list (hc : X.calm = true) : CallR X (.type "list") (rBt X.K cl .list1) := by
  intro pins s σ H xs us Q I r ⟨m, S, ds, R, rd, h⟩
  replace h : bList ds S (up X.K cl m H Q) := h
  unfold bList at h
  split at h
  · rename_i d
    obtain ⟨v, rfl, r1⟩ := rd.one
    split at h
    · rename_i l e
      obtain ⟨a, vs, rfl, hs, q⟩ := r1.seq R e
      exact call_list_of pins s σ H _ us Q I r ⟨a, vs, rfl, hs, fun p np => h _ _ _ (le_push np) (R.pushL np q) (.ref (R.last p))⟩
    · split at h
      · rename_i kvs e
        obtain ⟨n, a, l, rfl, hm, rfl, g, h1, q⟩ := r1.dct R e
        exact call_list_dK hc pins s σ H _ us Q I r ⟨a, l, rfl, h1, fun p np => h _ _ _ (le_push np) (R.pushL np (RDs.keys q)) (.ref (R.last p))⟩
      · exact h.elim
  · exact h.elim
theorem blt_tuple : CallR X (.type "tuple") (rBt X.K cl .tuple1) := by
  intro pins s σ H xs us Q I r ⟨m, S, ds, R, rd, h⟩
  replace h : bTuple ds S (up X.K cl m H Q) := h
  unfold bTuple at h
  split at h
  · rename_i d
    obtain ⟨v, rfl, r1⟩ := rd.one
    split at h
    · rename_i l e
      obtain ⟨a, vs, rfl, hs, q⟩ := r1.seq R e
      rcases hs with hs | hs
      · exact call_tuple_of pins s σ H _ us Q I r ⟨a, vs, rfl, .inl ⟨hs, fun p np => h _ _ _ (le_new np) (R.new np) (.tup (SqT.of upd_same) (q.mono (le_new np)))⟩⟩
      · exact call_tuple_of pins s σ H _ us Q I r ⟨a, vs, rfl, .inr ⟨hs, up_here h R (.tup hs q)⟩⟩
    · exact h.elim
  · exact h.elim
theorem blt_sum (hc : X.calm = true) : CallR X (.builtin "sum") (rBt X.K cl .sum1) := by
  intro pins s σ H xs us Q I r ⟨m, S, ds, R, rd, h⟩
  replace h : bSum ds S (up X.K cl m H Q) := h
  unfold bSum at h
  split at h
  · rename_i d
    obtain ⟨v, rfl, r1⟩ := rd.one
    split at h
    · rename_i ns e
      cases e1 : lq? S d with
      | none => rw [e1] at e; cases e
      | some l =>
        rw [e1] at e
        obtain ⟨a, vs, rfl, hs, q⟩ := r1.lq R e1
        have e2 := q.ints e
        subst e2
        exact cr_sum hc pins s σ H _ us Q I r ⟨a, ns, rfl, hs, up_here h R (.int _)⟩
    · exact h.elim
  · exact h.elim
theorem RDs.bls : ∀ {ds : List D} {vs : List V} {bs : List Bool}, RDs K m H ds vs → bls? ds = some bs → vs = bs.map V.bl
  | _, _, _, .nil, e => by cases e; rfl
  | _, _, _, .cons r q, e => by
    cases r with
    | bl i =>
      unfold bls? at e
      cases e2 : bls? _ with
      | none => rw [e2] at e; cases e
      | some ms =>
        rw [e2] at e
        cases e
        rw [RDs.bls q e2]
        rfl
    | _ => cases e
theorem blt_any (hc : X.calm = true) : CallR X (.builtin "any") (rBt X.K cl .any1) := by
  intro pins s σ H xs us Q I r ⟨m, S, ds, R, rd, h⟩
  replace h : bAny (fun l => l.any id) ds S (up X.K cl m H Q) := h
  unfold bAny at h
  split at h
  · rename_i d
    obtain ⟨v, rfl, r1⟩ := rd.one
    split at h
    · rename_i ns e
      cases e1 : lq? S d with
      | none => rw [e1] at e; cases e
      | some l =>
        rw [e1] at e
        obtain ⟨a, vs, rfl, hs, q⟩ := r1.lq R e1
        have e2 := q.bls e
        subst e2
        exact cr_any hc pins s σ H _ us Q I r ⟨a, ns, rfl, hs, up_here h R (.bl _)⟩
    · exact h.elim
  · exact h.elim
theorem blt_all (hc : X.calm = true) : CallR X (.builtin "all") (rBt X.K cl .all1) := by
  intro pins s σ H xs us Q I r ⟨m, S, ds, R, rd, h⟩
  replace h : bAny (fun l => l.all id) ds S (up X.K cl m H Q) := h
  unfold bAny at h
  split at h
  · rename_i d
    obtain ⟨v, rfl, r1⟩ := rd.one
    split at h
    · rename_i ns e
      cases e1 : lq? S d with
      | none => rw [e1] at e; cases e
      | some l =>
        rw [e1] at e
        obtain ⟨a, vs, rfl, hs, q⟩ := r1.lq R e1
        have e2 := q.bls e
        subst e2
        exact cr_all hc pins s σ H _ us Q I r ⟨a, ns, rfl, hs, up_here h R (.bl _)⟩
    · exact h.elim
  · exact h.elim
theorem blt_int : CallR X (.type "int") (rBt X.K cl .int1) := by
  intro pins s σ H xs us Q I r ⟨m, S, ds, R, rd, h⟩
  replace h : bInt ds S (up X.K cl m H Q) := h
  unfold bInt at h
  split at h
  · obtain ⟨v, rfl, r1⟩ := rd.one
    cases r1
    exact call_int1 pins s σ H _ us Q I r (.inl ⟨_, rfl, up_here h R (.int _)⟩)
  · obtain ⟨v, rfl, r1⟩ := rd.one
    cases r1
    exact call_int1 pins s σ H _ us Q I r (.inr ⟨_, rfl, up_here h R (.int _)⟩)
  · exact h.elim
/-! ### order -/
mutual
theorem snap_py (S : Store) : ∀ {d : D}, d.pur = true → Snap S d d.py
  | .non, _ => .non
  | .bl b, _ => .bl b
  | .int i, _ => .int i
  | .str x, _ => .str x
  | .tup l, h => .tup (snaps_py S h)
  | .fl _, h => by cases h
  | .ref _, h => by cases h
theorem snaps_py (S : Store) : ∀ {l : List D}, purs l = true → Snaps S l (pys l)
  | [], _ => .nil
  | d :: r, h => by
    obtain ⟨h1, h2⟩ := Bool.and_eq_true_iff.mp (show (d.pur && purs r) = true from h)
    exact .cons (snap_py S h1) (snaps_py S h2)
end
mutual
theorem py_inj : ∀ {a b : D}, a.pur = true → b.pur = true → a.py = b.py → a = b
  | .non, b, _, hb, e => by cases b <;> first | rfl | (cases e; done) | (cases hb; done)
  | .bl x, b, _, hb, e => by cases b <;> first | (cases e; rfl) | (cases e; done) | (cases hb; done)
  | .int x, b, _, hb, e => by cases b <;> first | (cases e; rfl) | (cases e; done) | (cases hb; done)
  | .str x, b, _, hb, e => by cases b <;> first | (cases e; rfl) | (cases e; done) | (cases hb; done)
  | .tup x, b, ha, hb, e => by
    cases b with
    | tup y =>
      have e2 : pys x = pys y := by injection e
      rw [pys_inj ha hb e2]
    | _ => first | (cases e; done) | (cases hb; done)
  | .fl _, _, h, _, _ => by cases h
  | .ref _, _, h, _, _ => by cases h
theorem pys_inj : ∀ {a b : List D}, purs a = true → purs b = true → pys a = pys b → a = b
  | [], b, _, _, e => by cases b with | nil => rfl | cons _ _ => cases e
  | x :: xs, b, ha, hb, e => by
    cases b with
    | nil => cases e
    | cons y ys =>
      obtain ⟨h1, h2⟩ := Bool.and_eq_true_iff.mp (show (x.pur && purs xs) = true from ha)
      obtain ⟨h3, h4⟩ := Bool.and_eq_true_iff.mp (show (y.pur && purs ys) = true from hb)
      have e1 : x.py = y.py := by injection e
      have e2 : pys xs = pys ys := by injection e
      rw [py_inj h1 h3 e1, pys_inj h2 h4 e2]
end
theorem pys_map (l : List D) : pys l = l.map D.py := by
  induction l with
  | nil => rfl
  | cons d r ih => rw [List.map_cons, ← ih]; rfl
theorem purs_mem {l : List D} (h : purs l = true) : ∀ d ∈ l, d.pur = true := by
  induction l with
  | nil => intro d hd; cases hd
  | cons x r ih =>
    obtain ⟨h1, h2⟩ := Bool.and_eq_true_iff.mp (show (x.pur && purs r) = true from h)
    intro d hd
    rcases List.mem_cons.mp hd with rfl | hd
    · exact h1
    · exact ih h2 d hd
/-- each value and its datum -/
theorem each_of {pins : List (Addr × Obj)} {σ : L2.St} {s : Shared} (I : Inv X pins σ H s) (R : RS X.K cl m H S) : ∀ {ds : List D} {vs : List V} {us : List Value}, RDs X.K m H ds vs → Vals vs us → purs ds = true →
    PySem.W.EachIs (fun u d => ∃ v, RelV v u ∧ RD X.K m H d v) us ds ∧ PySem.W.EachIs (fun u d => ∃ as, Reads s.heap u (D.py d) as) us ds
  | _, _, _, .nil, .nil, _ => ⟨.nil, .nil⟩
  | d :: ds, v :: vs, u :: us, .cons r q, .cons rv qv, h => by
    obtain ⟨h1, h2⟩ := Bool.and_eq_true_iff.mp (show (d.pur && purs ds) = true from h)
    obtain ⟨a, b⟩ := each_of I R q qv h2
    obtain ⟨as, rr⟩ := Dp.reads I d.py v u ((snap_py S h1).dp R r) rv
    exact ⟨.cons ⟨v, rv, r⟩ a, .cons ⟨as, rr⟩ b⟩
theorem each_back : ∀ {us : List Value} {ds : List D}, PySem.W.EachIs (fun u d => ∃ v, RelV v u ∧ RD K m H d v) us ds → ∃ vs, RDs K m H ds vs ∧ Vals vs us
  | _, _, .nil => ⟨[], .nil, .nil⟩
  | _, _, .cons ⟨v, h1, h2⟩ q => by
    obtain ⟨vs, a, b⟩ := each_back q
    exact ⟨v :: vs, .cons h2 a, .cons h1 b⟩
theorem blt_sorted (hu : X.A.units + 150 < cLine) : CallR X (.builtin "sorted") (rBt X.K cl .sorted1) := by
  intro pins s σ H xs us Q I r ⟨m, S, ds, R, rd, h⟩
  replace h : bSorted ds S (up X.K cl m H Q) := h
  unfold bSorted at h
  split at h
  · rename_i d
    obtain ⟨v, rfl, r1⟩ := rd.one
    split at h
    · rename_i l e
      obtain ⟨⟨hp, ha, hs, hd⟩, q⟩ := h
      obtain ⟨a, vs, rfl, hq, ql⟩ := r1.lq R e
      obtain ⟨its, rv, pl, hz⟩ := I.list hq
      obtain ⟨u, rfl, ru⟩ := vals1 r
      cases ru
      obtain ⟨e1, e2⟩ := each_of I R ql rv hp
      have hl : l.length ≤ sizeLine := by rw [ql.length]; exact hz
      refine PySem.W.sorted_data (R := fun u d => ∃ v, RelV v u ∧ RD X.K m H d v) (enc := D.py) (bs := l) pl.isList e1 e2 (by rw [← pys_map]; exact ha) (by rw [← pys_map]; exact hs) hl (fun b hb => ?_) fun out ho eo => ?_
      · have := hd b.py (by rw [pys_map]; exact List.mem_map_of_mem hb)
        omega
      · obtain ⟨ws, w1, w2⟩ := each_back eo
        obtain ⟨ep, he⟩ := PyProof.Rows.sortedAll_at s.heap its (List.toArray out)
        have hn := I.hok.fresh (Nat.le_succ s.heap.objs.size)
        have hlw : ws.length ≤ sizeLine := by rw [← w1.length, List.length_mergeSort]; exact hl
        refine ⟨.ref _, upd H (s.heap.objs.size + 1) (.lst ws), I.laid (t' := s.toks) (fun _ _ => PyProof.Rows.sortedAll_old) (Nat.le_succ _) ⟨hlw, out, ep, w2, he⟩, rfl, ?_⟩
        exact q _ _ _ (le_push hn) (R.pushL hn w1) (.ref (R.last _))
    · exact h.elim
  · exact h.elim
theorem all_of {h : Heap} : ∀ {us : List Value} {ds : List D}, PySem.W.EachIs (fun u d => ∃ as, Reads h u (D.py d) as) us ds → ∃ as, ReadsAll h us (pys ds) as
  | _, _, .nil => ⟨_, .nil⟩
  | _, _, .cons ⟨a, h1⟩ q => by
    obtain ⟨b, h2⟩ := all_of q
    exact ⟨_, .cons h1 h2⟩
theorem minD_py (x : D) (l : List D) : PySem.W.minD x.py (pys l) = (minL x l).py := by
  rw [pys_map]
  unfold PySem.W.minD minL
  induction l generalizing x with
  | nil => rfl
  | cons y r ih =>
    rw [List.map_cons, List.foldl_cons, List.foldl_cons]
    by_cases h : PySem.W.dataLt y.py x.py = true
    · simp only [h, if_true]
      exact ih y
    · simp only [h, if_false]
      exact ih x
theorem maxD_py (x : D) (l : List D) : PySem.W.maxD x.py (pys l) = (maxL x l).py := by
  rw [pys_map]
  unfold PySem.W.maxD maxL
  induction l generalizing x with
  | nil => rfl
  | cons y r ih =>
    rw [List.map_cons, List.foldl_cons, List.foldl_cons]
    by_cases h : PySem.W.dataLt x.py y.py = true
    · simp only [h, if_true]
      exact ih y
    · simp only [h, if_false]
      exact ih x
theorem minL_mem (x : D) (l : List D) : minL x l ∈ x :: l := by
  unfold minL
  induction l generalizing x with
  | nil => exact List.mem_cons_self
  | cons y r ih =>
    rw [List.foldl_cons]
    split
    · exact List.mem_cons_of_mem _ (ih y)
    · rcases List.mem_cons.mp (ih x) with e | e
      · rw [e]; exact List.mem_cons_self
      · exact List.mem_cons_of_mem _ (List.mem_cons_of_mem _ e)
theorem maxL_mem (x : D) (l : List D) : maxL x l ∈ x :: l := by
  unfold maxL
  induction l generalizing x with
  | nil => exact List.mem_cons_self
  | cons y r ih =>
    rw [List.foldl_cons]
    split
    · exact List.mem_cons_of_mem _ (ih y)
    · rcases List.mem_cons.mp (ih x) with e | e
      · rw [e]; exact List.mem_cons_self
      · exact List.mem_cons_of_mem _ (List.mem_cons_of_mem _ e)
theorem OrdOk.alikeAll {l : List D} (h : OrdOk l) : PySem.W.AlikeAll (pys l) := by
  obtain ⟨hp, ha, hs, hd⟩ := h
  refine ⟨fun x hx y hy => ha x hx y hy, fun x hx => ?_⟩
  rcases hs with hs | hs
  · obtain ⟨y, r, e⟩ := hs x hx
    rw [e]
    exact fun z => by cases z
  · exact (hs x hx).1
theorem depthAll_le {n : Nat} : ∀ {l : List PyData}, (∀ p ∈ l, p.depth ≤ n) → PyData.depthAll l ≤ n
  | [], _ => Nat.zero_le _
  | p :: r, h => Nat.max_le.mpr ⟨h p List.mem_cons_self, depthAll_le fun q hq => h q (List.mem_cons_of_mem _ hq)⟩
/-- the value that was found is the least one's -/
theorem best_rd {pins : List (Addr × Obj)} {σ : L2.St} {s : Shared} {h' : Heap} (I : Inv X pins σ H s) (R : RS X.K cl m H S) {ds : List D} {vs : List V} {us : List Value} (q : RDs X.K m H ds vs) (qv : Vals vs us) (ok : OrdOk ds) (kp : ∀ b o, s.heap.get? b = some o → h'.get? b = some o)
    {i : Nat} {u : Value} {b : D} {as : List Addr} (hb : b ∈ ds) (hu : us[i]? = some u) (hr : Reads h' u b.py as) : ∃ v, RelV v u ∧ RD X.K m H b v := by
  have hl := qv.length
  have hl2 := q.length
  have hi : i < us.length := (List.getElem?_eq_some_iff.mp hu).1
  have hv : vs[i]? = some vs[i] := List.getElem?_eq_getElem (by omega)
  obtain ⟨d, hd, rd⟩ := q.getV hv
  obtain ⟨u', hu', ru⟩ := qv.get hv
  rw [hu] at hu'
  cases hu'
  have hdm : d ∈ ds := List.mem_of_getElem? hd
  have pd := purs_mem ok.1 d hdm
  obtain ⟨bs, r1⟩ := Dp.reads I d.py _ u ((snap_py S pd).dp R rd) ru
  have r2 := PyProof.Rows.Reads.keeps kp r1
  have e := PySem.W.alike_unique _ _ _ _ _ (ok.2.1 _ (by rw [pys_map]; exact List.mem_map_of_mem hdm) _ (by rw [pys_map]; exact List.mem_map_of_mem hb)) r2 hr
  have e2 := py_inj pd (purs_mem ok.1 b hb) e
  subst e2
  exact ⟨_, ru, rd⟩
theorem blt_min (hc : X.calm = true) (hu : X.A.units + 150 < cLine) : CallR X (.builtin "min") (rBt X.K cl .min1) := by
  intro pins s σ H xs us Q I r ⟨m, S, ds, R, rd, h⟩
  replace h : bBest minL ds S (up X.K cl m H Q) := h
  unfold bBest at h
  split at h
  · rename_i d
    obtain ⟨v, rfl, r1⟩ := rd.one
    split at h
    · rename_i x l e
      obtain ⟨ok, q⟩ := h
      obtain ⟨a, vs, rfl, hq, ql⟩ := r1.lq R e
      obtain ⟨its, rv, pl, hz⟩ := I.list hq
      obtain ⟨u, rfl, ru⟩ := vals1 r
      cases ru
      obtain ⟨e1, e2⟩ := each_of I R ql rv ok.1
      obtain ⟨as, ra⟩ := all_of e2
      have hd := depthAll_le ok.2.2.2
      refine PySem.W.min_list_data (I.ok.hd hc) pl.isList (show ReadsAll s.heap its.toArray.toList (x.py :: pys l) as by simpa using (show ReadsAll s.heap its (x.py :: pys l) as from ra)) ok.alikeAll (by show X.A.units + 1 + PyData.depthAll (pys (x :: l)) < cLine; omega) fun i u h' tk bs hi hr hk => ?_
      rw [minD_py] at hr
      obtain ⟨w, w1, w2⟩ := best_rd I R ql rv ok hk (minL_mem x l) (by simpa using hi) hr
      exact ⟨w, H, I.kept hk, w1, up_here q R w2⟩
    · exact h.elim
  · exact h.elim
theorem blt_max (hc : X.calm = true) (hu : X.A.units + 150 < cLine) : CallR X (.builtin "max") (rBt X.K cl .max1) := by
  intro pins s σ H xs us Q I r ⟨m, S, ds, R, rd, h⟩
  replace h : bBest maxL ds S (up X.K cl m H Q) := h
  unfold bBest at h
  split at h
  · rename_i d
    obtain ⟨v, rfl, r1⟩ := rd.one
    split at h
    · rename_i x l e
      obtain ⟨ok, q⟩ := h
      obtain ⟨a, vs, rfl, hq, ql⟩ := r1.lq R e
      obtain ⟨its, rv, pl, hz⟩ := I.list hq
      obtain ⟨u, rfl, ru⟩ := vals1 r
      cases ru
      obtain ⟨e1, e2⟩ := each_of I R ql rv ok.1
      obtain ⟨as, ra⟩ := all_of e2
      have hd := depthAll_le ok.2.2.2
      refine PySem.W.max_list_data (I.ok.hd hc) pl.isList (show ReadsAll s.heap its.toArray.toList (x.py :: pys l) as by simpa using (show ReadsAll s.heap its (x.py :: pys l) as from ra)) ok.alikeAll (by show X.A.units + 1 + PyData.depthAll (pys (x :: l)) < cLine; omega) fun i u h' tk bs hi hr hk => ?_
      rw [maxD_py] at hr
      obtain ⟨w, w1, w2⟩ := best_rd I R ql rv ok hk (maxL_mem x l) (by simpa using hi) hr
      exact ⟨w, H, I.kept hk, w1, up_here q R w2⟩
    · exact h.elim
  · exact h.elim
theorem ord_nil : OrdOk [] := ⟨rfl, (fun d hd => by cases hd), Or.inr (fun d hd => by cases hd), (fun p hp => by cases hp)⟩
/-- max(xs, default=e) -/
def rMaxd (K : Fg) (cl : Cl) : List V → List V → Hp → VK → Prop := fun vs zs H Q => ∃ m S d e, RS K cl m H S ∧ RDs K m H [d] vs ∧ RDs K m H [e] zs ∧ bMaxd [d, e] S (up K cl m H Q)
theorem blt_maxd (hc : X.calm = true) (hu : X.A.units + 150 < cLine) : CallRK X (.builtin "max") [Str.ofString "default"] (rMaxd X.K cl) := by
  intro pins s σ H vs zs us ws Q I r r' ⟨m, S, d, e, R, rd, re, h⟩
  obtain ⟨v, rfl, r1⟩ := rd.one
  obtain ⟨z, rfl, r2⟩ := re.one
  obtain ⟨u, rfl, ru⟩ := vals1 r
  obtain ⟨w, rfl, rw'⟩ := vals1 r'
  unfold bMaxd at h
  dsimp only at h
  have key : ∀ {l : List D}, lq? S d = some l → (l = [] → up X.K cl m H Q e S) → (∀ x r, l = x :: r → OrdOk (x :: r) ∧ up X.K cl m H Q (maxL x r) S) → OrdOk l → wpAny (model X.prog X.w) X.A (call (.builtin "max") [u] [(Str.ofString "default", w)]) (EP X pins σ Q) X.xe s := by
    intro l el h0 h1 ok
    obtain ⟨a, vs, rfl, hq, ql⟩ := r1.lq R el
    obtain ⟨its, rv, pl, hz⟩ := I.list hq
    cases ru
    obtain ⟨e1, e2⟩ := each_of I R ql rv ok.1
    obtain ⟨as, ra⟩ := all_of e2
    have hd := depthAll_le ok.2.2.2
    refine PySem.W.max_list_default (I.ok.hd hc) pl.isList (by simpa using ra) ok.alikeAll (by omega) (fun z h' tk hk => ?_) fun y ys i u h' tk bs ey hi hr hk => ?_
    · have hl : l = [] := by cases l with | nil => rfl | cons _ _ => cases z
      exact ⟨_, H, I.kept hk, rw', up_here (h0 hl) R r2⟩
    · cases l with
      | nil => cases ey
      | cons x r =>
        have ex : x.py = y := by injection ey
        have er : pys r = ys := by injection ey
        subst ex er
        rw [maxD_py] at hr
        obtain ⟨w, w1, w2⟩ := best_rd I R ql rv ok hk (maxL_mem x r) (by simpa using hi) hr
        exact ⟨w, H, I.kept hk, w1, up_here (h1 x r rfl).2 R w2⟩
  split at h
  · rename_i el
    exact key el (fun _ => h) (fun x r e => by cases e) ord_nil
  · rename_i x l el
    exact key el (fun e => by cases e) (fun x' r' e => by cases e; exact h) h.1
  · exact h.elim
/-! ### methods -/
def rBm (K : Fg) (cl : Cl) (b : Bm) : V → List V → Hp → VK → Prop := fun x vs H Q => ∃ m S d ds, RS K cl m H S ∧ RD K m H d x ∧ RDs K m H ds vs ∧ bm b d ds S (up K cl m H Q)
theorem bm_append : MtR X "list.append" (rBm X.K cl .append) := by
  intro pins s σ H x vs v us Q I rx rv ⟨m, S, d, ds, R, r1, rd, h⟩
  replace h : mAppend d ds S (up X.K cl m H Q) := h
  unfold mAppend at h
  split at h
  · rename_i n e
    obtain ⟨y, rfl, r2⟩ := rd.one
    split at h
    · rename_i l g
      cases r1 with
      | ref hm =>
        obtain ⟨ws, h1, q⟩ := R.at_ _ _ _ hm g
        have hl := lim_le
        have := h.1
        have := q.length
        refine mt_append pins s σ H _ _ v us Q I rx rv ⟨_, ws, y, rfl, rfl, h1, by omega, ?_⟩
        exact h.2 _ _ _ (le_set h1 trivial) (R.set hm h1 trivial ⟨_, upd_same, (q.append (.cons r2 .nil)).mono (le_set h1 trivial)⟩) .non
    · exact h.elim
  · exact h.elim
theorem bm_pop : MtR X "list.pop" (rBm X.K cl .pop) := by
  intro pins s σ H x vs v us Q I rx rv ⟨m, S, d, ds, R, r1, rd, h⟩
  replace h : mPop d ds S (up X.K cl m H Q) := h
  unfold mPop at h
  split at h
  · rename_i n
    cases rd
    split at h
    · rename_i l g
      cases r1 with
      | ref hm =>
        obtain ⟨ws, h1, q⟩ := R.at_ _ _ _ hm g
        split at h
        · rename_i y ey
          rw [List.getLast?_eq_getElem?] at ey
          obtain ⟨w, hw, rw'⟩ := q.get ey
          rw [q.length] at hw
          refine mt_pop pins s σ H _ _ v us Q I rx rv ⟨_, ws, w, rfl, rfl, h1, hw, ?_⟩
          refine h _ _ _ (le_set h1 trivial) (R.set hm h1 trivial ⟨_, upd_same, ?_⟩) (rw'.mono (le_set h1 trivial))
          rw [List.dropLast_eq_take, List.dropLast_eq_take, q.length]
          exact (q.take _).mono (le_set h1 trivial)
        · exact h.elim
    · exact h.elim
  · exact h.elim
theorem bm_popAt : MtR X "list.pop" (rBm X.K cl .popAt) := by
  intro pins s σ H x vs v us Q I rx rv ⟨m, S, d, ds, R, r1, rd, h⟩
  replace h : mPopAt d ds S (up X.K cl m H Q) := h
  unfold mPopAt at h
  split at h
  · rename_i n i
    obtain ⟨y, rfl, r2⟩ := rd.one
    cases r2
    split at h
    · rename_i l g
      cases r1 with
      | ref hm =>
        obtain ⟨ws, h1, q⟩ := R.at_ _ _ _ hm g
        split at h
        · rename_i j ej
          split at h
          · rename_i y ey
            obtain ⟨w, hw, rw'⟩ := q.get ey
            rw [q.length] at ej
            obtain ⟨k1, k2, k3, k4⟩ := ixN_seq ej
            obtain ⟨its, rv', pl, hz⟩ := I.list (SqL.of (K := X.K) h1)
            have h63 := line63
            refine mt_popAt pins s σ H _ _ v us Q I rx rv ⟨_, ws, i, j, w, rfl, rfl, h1, by omega, by omega, k1, hw, ?_⟩
            exact h _ _ _ (le_set h1 trivial) (R.set hm h1 trivial ⟨_, upd_same, (q.eraseIdx j).mono (le_set h1 trivial)⟩) (rw'.mono (le_set h1 trivial))
          · exact h.elim
        · exact h.elim
    · exact h.elim
  · exact h.elim
theorem bm_insert : MtR X "list.insert" (rBm X.K cl .insert) := by
  intro pins s σ H x vs v us Q I rx rv ⟨m, S, d, ds, R, r1, rd, h⟩
  replace h : mInsert d ds S (up X.K cl m H Q) := h
  unfold mInsert at h
  split at h
  · rename_i n i e
    obtain ⟨y, z, rfl, r2, r3⟩ := rd.two
    cases r2
    split at h
    · rename_i l g
      cases r1 with
      | ref hm =>
        obtain ⟨ws, h1, q⟩ := R.at_ _ _ _ hm g
        obtain ⟨a1, a2, a3, a4⟩ := h
        have hl := lim_le
        have := q.length
        refine mt_insert pins s σ H _ _ v us Q I rx rv ⟨_, ws, i, z, rfl, rfl, h1, by omega, a2, by omega, ?_⟩
        refine a4 _ _ _ (le_set h1 trivial) (R.set hm h1 trivial ⟨_, upd_same, ?_⟩) .non
        exact (((q.take _).append (.cons r3 .nil)).append (q.drop _)).mono (le_set h1 trivial)
    · exact h.elim
  · exact h.elim
theorem idx_get {x : D} : ∀ {l : List D} {j : Nat}, idx? x l = some j → (∃ z, l[j]? = some z ∧ z.sEq x = true) ∧ ∀ k z, k < j → l[k]? = some z → z.sEq x = false
  | [], _, e => by cases e
  | y :: r, j, e => by
    unfold idx? at e
    split at e
    · rename_i hy
      cases e
      exact ⟨⟨y, rfl, hy⟩, fun k z hk => by omega⟩
    · rename_i hy
      cases e2 : idx? x r with
      | none => rw [e2] at e; cases e
      | some i =>
        rw [e2] at e
        cases e
        obtain ⟨⟨z, h1, h2⟩, h3⟩ := idx_get e2
        refine ⟨⟨z, by simpa using h1, h2⟩, fun k w hk hw => ?_⟩
        cases k with
        | zero =>
          have : y = w := by simpa using hw
          subst this
          simpa using hy
        | succ k => exact h3 k w (Nat.lt_of_succ_lt_succ hk) (by simpa using hw)
theorem bm_index : MtR X "list.index" (rBm X.K cl .index) := by
  intro pins s σ H x vs v us Q I rx rv ⟨m, S, d, ds, R, r1, rd, h⟩
  replace h : mIndex d ds S (up X.K cl m H Q) := h
  unfold mIndex at h
  split at h
  · obtain ⟨y, rfl, r2⟩ := rd.one
    split at h
    · rename_i l e
      obtain ⟨a, ws, rfl, hq, q⟩ := r1.lq R e
      split at h
      · rename_i j ej
        obtain ⟨a1, a2, a3⟩ := h
        obtain ⟨⟨z, h1, h2⟩, h3⟩ := idx_get ej
        obtain ⟨w, hw, rw'⟩ := q.get h1
        have sz := List.all_eq_true.mp a2 z (List.mem_of_getElem? h1)
        refine mt_index pins s σ H _ _ v us Q I rx rv ⟨a, ws, y, j, w, rfl, rfl, hq, r2.flat a1, q.flat a2, hw, by rw [rw'.sEq r2 sz a1]; exact h2, fun k z' hk hz' => ?_, up_here a3 R (.int _)⟩
        obtain ⟨c, hc, rc⟩ := q.getV hz'
        rw [rc.sEq r2 (List.all_eq_true.mp a2 c (List.mem_of_getElem? hc)) a1]
        exact h3 k c hk hc
      · exact h.elim
    · exact h.elim
  · exact h.elim
theorem ints_map : ∀ {l : List D}, (ints? l).isSome = true → ∃ ns, ints? l = some ns ∧ l = ns.map D.int
  | [], _ => ⟨[], rfl, rfl⟩
  | d :: r, h => by
    cases d with
    | int i =>
      unfold ints? at h
      cases e : ints? r with
      | none => rw [e] at h; cases h
      | some ns =>
        obtain ⟨ns', e1, e2⟩ := ints_map (l := r) (by rw [e]; rfl)
        exact ⟨i :: ns', by unfold ints?; rw [e1]; rfl, by rw [e2]; rfl⟩
    | _ => cases h
theorem erase_map {α β : Type} (f : α → β) : ∀ (l : List α) (j : Nat), (l.map f).eraseIdx j = (l.eraseIdx j).map f
  | [], _ => rfl
  | _ :: _, 0 => rfl
  | a :: l, j + 1 => by
    show f a :: (l.map f).eraseIdx j = f a :: (l.eraseIdx j).map f
    rw [erase_map f l j]
theorem bm_remove : MtR X "list.remove" (rBm X.K cl .remove) := by
  intro pins s σ H x vs v us Q I rx rv ⟨m, S, d, ds, R, r1, rd, h⟩
  replace h : mRemove d ds S (up X.K cl m H Q) := h
  unfold mRemove at h
  split at h
  · rename_i n e
    obtain ⟨y, rfl, r2⟩ := rd.one
    split at h
    · rename_i l g
      cases r1 with
      | ref hm =>
        obtain ⟨ws, h1, q⟩ := R.at_ _ _ _ hm g
        split at h
        · rename_i j ej
          obtain ⟨a1, a2, a3⟩ := h
          obtain ⟨ns, e1, e2⟩ := ints_map a1
          obtain ⟨ks, k1, k2⟩ := ints_map a2
          have ews := q.ints e1
          subst e2 ews
          obtain ⟨i, rfl⟩ : ∃ i, e = .int i := by
            cases ks with
            | nil => cases k2
            | cons i r => exact ⟨i, by injection k2⟩
          cases r2
          obtain ⟨⟨z, z1, z2⟩, z3⟩ := idx_get ej
          have zn : ns[j]? = some i := by
            rw [List.getElem?_map] at z1
            cases c : ns[j]? with
            | none => rw [c] at z1; cases z1
            | some w =>
              rw [c] at z1
              cases z1
              have : w = i := by simpa [D.sEq] using z2
              rw [this]
          refine mt_remove pins s σ H _ _ v us Q I rx rv ⟨_, ns, i, j, rfl, rfl, h1, zn, fun k hk hz => ?_, ?_⟩
          · have := z3 k (.int i) hk (by rw [List.getElem?_map, hz]; rfl)
            simp [D.sEq] at this
          · refine a3 _ _ _ (le_set h1 trivial) (R.set hm h1 trivial ⟨_, upd_same, ?_⟩) .non
            have := (q.eraseIdx j).mono (le_set (u := .lst ((ns.eraseIdx j).map V.int)) h1 trivial)
            rwa [erase_map V.int] at this
        · exact h.elim
    · exact h.elim
  · exact h.elim
/-! ### dicts -/
theorem key_of_rd {d : D} {v : V} {k : Key} (r : RD K m H d v) (e : keyOf d = some k) : v = kV k := by
  cases r <;> first | (cases e; done) | (cases e; rfl)
theorem KR.valV {l : List (Key × D)} {kvs : List (Key × V)} (r : KR K m H l kvs) (k : Key) : (∃ d v, dGet l k = some d ∧ L2.valV kvs k = some v ∧ RD K m H d v) ∨ (dGet l k = none ∧ L2.valV kvs k = none) := KR.get k r
theorem bm_get1 (hu : X.A.units + 150 < cLine) : MtR X "dict.get" (rBm X.K cl .get1) := by
  intro pins s σ H x vs v us Q I rx rv ⟨m, S, d, ds, R, r1, rd, h⟩
  replace h : mGet1 d ds S (up X.K cl m H Q) := h
  unfold mGet1 at h
  split at h
  · obtain ⟨y, rfl, r2⟩ := rd.one
    unfold mGet at h
    split at h
    · rename_i kvs k e1 e2
      obtain ⟨n, a, l, rfl, hm, rfl, g, h1, q⟩ := r1.dct R e1
      have ey := key_of_rd r2 e2
      subst ey
      cases rx
      obtain ⟨u, rfl, ru⟩ := vals1 rv
      refine d_get1 (by omega) I (DGet.k h1) ru fun w' s' I' rw' => ⟨_, H, I', rw', ?_⟩
      rcases q.valV k with ⟨d, w, g1, g2, g3⟩ | ⟨g1, g2⟩
      · rw [g2]; rw [g1] at h; exact up_here h R g3
      · rw [g2]; rw [g1] at h; exact up_here h R .non
    · exact h.elim
  · exact h.elim
theorem bm_get2 (hu : X.A.units + 150 < cLine) : MtR X "dict.get" (rBm X.K cl .get2) := by
  intro pins s σ H x vs v us Q I rx rv ⟨m, S, d, ds, R, r1, rd, h⟩
  replace h : mGet2 d ds S (up X.K cl m H Q) := h
  unfold mGet2 at h
  split at h
  · obtain ⟨y, z, rfl, r2, r3⟩ := rd.two
    unfold mGet at h
    split at h
    · rename_i kvs k e1 e2
      obtain ⟨n, a, l, rfl, hm, rfl, g, h1, q⟩ := r1.dct R e1
      have ey := key_of_rd r2 e2
      subst ey
      cases rx
      cases rv with
      | cons ru rv =>
        obtain ⟨w, rfl, rw0⟩ := vals1 rv
        refine d_get2 (by omega) I (DGet.k h1) ru rw0 fun w' s' I' rw' => ⟨_, H, I', rw', ?_⟩
        rcases q.valV k with ⟨d, w, g1, g2, g3⟩ | ⟨g1, g2⟩
        · rw [g2]; rw [g1] at h; exact up_here h R g3
        · rw [g2]; rw [g1] at h; exact up_here h R r3
    · exact h.elim
  · exact h.elim
theorem bm_dpop : MtR X "dict.pop" (rBm X.K cl .dpop) := by
  intro pins s σ H x vs v us Q I rx rv ⟨m, S, d, ds, R, r1, rd, h⟩
  replace h : mDpop d ds S (up X.K cl m H Q) := h
  unfold mDpop at h
  split at h
  · obtain ⟨y, rfl, r2⟩ := rd.one
    split at h
    · rename_i kvs k g e2
      split at h
      · rename_i w ew
        cases r1 with
        | ref hm =>
          obtain ⟨l, h1, q⟩ := R.at_ _ _ _ hm g
          have ey := key_of_rd r2 e2
          subst ey
          cases rx
          obtain ⟨u, rfl, ru⟩ := vals1 rv
          rcases q.valV k with ⟨d, w', g1, g2, g3⟩ | ⟨g1, g2⟩
          · rw [g1] at ew
            cases ew
            refine d_pop I h1 ru g2 (.inl rfl) fun w' s' I' rw' => ⟨_, _, I', rw', ?_⟩
            exact h _ _ _ (le_set h1 trivial) (R.set hm h1 trivial ⟨_, upd_same, (q.drop k).mono (le_set h1 trivial)⟩) (g3.mono (le_set h1 trivial))
          · rw [g1] at ew; cases ew
      · exact h.elim
    · exact h.elim
  · exact h.elim
theorem bm_bits : MtR X "int.bit_length" (rBm X.K cl .bitlen) := by
  intro pins s σ H x vs v us Q I rx rv ⟨m, S, d, ds, R, r1, rd, h⟩
  replace h : mBitlen d ds S (up X.K cl m H Q) := h
  unfold mBitlen at h
  split at h
  · cases rd
    cases r1
    cases rv
    obtain ⟨t, rfl⟩ := rx
    exact call_int_bit_length ⟨.int _, H, I.tok _, ⟨_, rfl⟩, up_here h R (.int _)⟩
  · exact h.elim
theorem blt_dict : CallR X (.type "dict") (rBt X.K cl .dict1) := by
  intro pins s σ H xs us Q I r ⟨m, S, ds, R, rd, h⟩
  replace h : bDict ds S (up X.K cl m H Q) := h
  unfold bDict at h
  split at h
  · obtain ⟨v, rfl, r1⟩ := rd.one
    split at h
    · rename_i kvs e
      obtain ⟨n, a, l, rfl, hm, rfl, g, h1, q⟩ := r1.dct R e
      obtain ⟨u, rfl, ru⟩ := vals1 r
      cases ru
      exact d_copyOf I (.inl h1) fun p s' np I' => ⟨.ref p, _, I', rfl, h _ _ _ (le_push np) (R.push np ⟨_, upd_same, q.mono (le_push np)⟩) (.ref (R.last p))⟩
    · exact h.elim
  · exact h.elim
end
end Mn

/-! What is walked: iterators that the layer has no rule for. -/
namespace Mn
open PySem PySem.Spec PyProof.Rows L2
/-! ### enumerate of a tuple -/
theorem meets_enum_new1 {v : Value} {o : Obj} {H : Heap → Prop} (B : PySem.Begins v o H) :
    Meets (Builtin.«enumerate.__new__» ⟨[.type "enumerate", v], []⟩) (fun _ R s => H s.heap ∧
      R (.ok (.ret (.ref (s.heap.push o).objs.size))) { s with heap := (s.heap.push o).push { cls := .type "enumerate", data := .fields #[.none, .bool false, .ref s.heap.objs.size, rawInt 0, .none, .none] } }) :=
  .of_wp fun prog w A R s h => by
    obtain ⟨hp, g, d, tk, os⟩ := s
    obtain ⟨h1, h⟩ := h
    have hsub := sub_enumerate
    have q1 : ∀ {A' : Around} {E : Value → Shared → Prop} {Q : Value → Shared → Prop}, Q (.ref hp.objs.size) ⟨hp.push o, g, d, tk, os⟩ → wpAny (model prog w) A' (pyIter v) Q E ⟨hp, g, d, tk, os⟩ :=
      fun q => B.iter prog w _ _ ⟨hp, g, d, tk, os⟩ _ h1 q
    wp_walk using q1
    refine wpAny_stack_any fun st => wpAny_pure ?_
    split
    · rename_i c _ _ _ _ _
      cases (c == Value.type "enumerate")
      · wp_walk using q1
        exact ⟨_, rfl, h⟩
      · wp_walk using q1
        exact ⟨_, rfl, h⟩
    · wp_walk using q1
      exact ⟨_, rfl, h⟩
theorem enum_begins1 {prog : Program} {w : World} {A : Around} {E : Value → Shared → Prop} {s : Shared} {v : Value} {o : Obj} {H : Heap → Prop} {Q : Value → Shared → Prop} (B : PySem.Begins v o H) (h1 : H s.heap)
    (h : ∀ h', IsEnum h' (s.heap.objs.size + 1) s.heap.objs.size 0 .none → h'.get? s.heap.objs.size = some o → h'.objs.size = s.heap.objs.size + 2 →
      (∀ b o, s.heap.get? b = some o → h'.get? b = some o) → Q (.ref (s.heap.objs.size + 1)) { s with heap := h' }) :
    wpAny (model prog w) A (call (.type "enumerate") [v]) Q E s := by
  refine callType_new PySem.F.called_enumerate (by decide) (PySem.F.typeCall_enumerate_1 _) (PySem.F.newCall_enumerate_1 _) (fun obj => PySem.F.args_object_init_2 obj _) PySem.F.entry_enumerate_new
    (meets_enum_new1 B) ⟨h1, ?_⟩
  have hz : (s.heap.push o).objs.size = s.heap.objs.size + 1 := Heap.size_push ..
  show _ ∧ _
  rw [hz]
  have he : IsEnum ((s.heap.push o).push { cls := .type "enumerate", data := .fields #[.none, .bool false, .ref s.heap.objs.size, rawInt 0, .none, .none] }) (s.heap.objs.size + 1) s.heap.objs.size 0 .none := by
    have := Heap.get?_push_size (s.heap.push o) (o := { cls := .type "enumerate", data := .fields #[.none, .bool false, .ref s.heap.objs.size, rawInt 0, .none, .none] }) rfl
    rw [hz] at this
    exact this
  refine ⟨⟨_, he, rfl⟩, h _ he (Heap.get?_push_of_some _ (Heap.get?_push_size _ B.free)) (by rw [Heap.size_push, hz]) fun b o x => Heap.get?_push_of_some _ (Heap.get?_push_of_some _ x)⟩
/-- the tuple at a, each item in a new pair -/
def Iet (K : Fg) (a : Addr) : L2.It :=
  ⟨fun i H => ∃ (xs : List V) (x : V), SqT K H a xs ∧ xs[i]? = some x, fun i H v H' => ∃ T x, v = .ref T ∧ H T = none ∧ H' = upd H T (.tup [.int (i : Nat), x]) ∧ ∀ xs, SqT K H a xs → xs[i]? = some x, fun i H => ∃ xs : List V, SqT K H a xs ∧ xs.length ≤ i⟩
theorem turn_enumT {P : Program} {w : World} {K : Fg} {elts : List Expr} {kk : Nat} {tpos : Pos} (a e it : Addr) :
    Turn P w K (.Tuple elts kk tpos) (Iet K a) [e, it] e (fun i h => (∃ old, IsEnum h e it ((i : Nat) : Int) old) ∧ h.IsTupleIter it a i ∧ e ≠ it) where
  mem := by simp
  obj := fun i h st b hb => by
    obtain ⟨⟨old, he⟩, ⟨o, ho, hc, hd⟩, _⟩ := st
    have e' : b = e ∨ b = it := by simpa using hb
    rcases e' with z | z
    · rw [z]; exact ⟨_, he, fun v q => nomatch q⟩
    · rw [z]; exact ⟨o, ho, fun v q => by rw [hd] at q; cases q⟩
  keep := fun i h h' st k => let ⟨⟨old, he⟩, hi, hne⟩ := st; ⟨⟨old, k e (by simp) _ he⟩, hi.at fun o q => k it (by simp) o q, hne⟩
  item := by
    intro X hP hw hK hc i pins s σ H E I hf st hg
    subst hP hw hK
    obtain ⟨⟨old, he⟩, hit, hne⟩ := st
    obtain ⟨xs, x, hq, hx⟩ := hg
    obtain ⟨its, rv, p, hz⟩ := I.tuple hq
    obtain ⟨u, hu, ru⟩ := rv.get hx
    have hp : s.heap.IsTuple a its.toArray := p
    have hel : e < s.heap.objs.size := Heap.lt_size he
    have hil : it < s.heap.objs.size := by obtain ⟨_, q, _⟩ := hit; exact Heap.lt_size q
    have hae : a ≠ e := fun z => by
      obtain ⟨o1, h1, c1, n1, d1⟩ := hp
      rw [z, he] at h1
      cases h1
      exact absurd (Value.type.inj c1) (by decide)
    have hai : a ≠ it := fun z => by
      obtain ⟨o1, h1, c1, n1, d1⟩ := hp
      obtain ⟨o2, h2, c2, d2⟩ := hit
      rw [z, h2] at h1
      cases h1
      rw [c2] at c1
      exact absurd (Value.type.inj c1) (by decide)
    have hlt : i < its.toArray.size := by
      have := (List.getElem?_eq_some_iff.mp hu).1
      simpa using this
    refine wpAny_pyNext_enum_itemD (fp := [it, a]) (Draws.tuple (A := X.A.in1) (I.ok.hd hc) it a hai its.toArray) he ⟨hit, hp⟩ hlt hne (by simp; exact ⟨hne, fun z => hae z.symm⟩) fun y h' tk hy ho hit' hT hsz hk => ?_
    have ey : y = u := by
      have h1 : its[i]? = some y := by simpa using hy
      rw [hu] at h1
      cases h1
      rfl
    subst ey
    refine ⟨_, rfl, wpAny_letOwnedTupleGo_enum (s := { s with heap := h', toks := tk + 1 }) ho fun h'' he' sb => ?_⟩
    have hT2 : h''.get? s.heap.objs.size = some { cls := .type "tuple", data := .seq #[.int i tk, y] } := (sb.2 _ (Nat.ne_of_gt hel)).trans hT
    have new : ObjOk X.prog X.w (upd H s.heap.objs.size (.tup [.int (i : Nat), x])) h'' s.heap.objs.size (.tup [.int (i : Nat), x]) :=
      ⟨by show 2 ≤ sizeLine; decide, [.int i tk, y], .cons ⟨_, rfl⟩ (.cons ru .nil), ⟨_, hT2, rfl, _, rfl⟩⟩
    have I1 : Inv X pins σ (upd H s.heap.objs.size (.tup [.int (i : Nat), x])) { s with heap := h'', toks := tk + 1 } :=
      I.turnedNew (ch := [e, it]) (fun b ob hb q => (sb.2 b (fun z => hb (by simp [z]))).trans (hk b ob (fun z => hb (by simp [z])) (fun z => hb (by simp [z])) q)) hf (Nat.le_refl _) new
    refine ⟨.ref s.heap.objs.size, _, I1, rfl, ⟨_, x, rfl, I.hok.fresh (Nat.le_refl _), rfl, fun ys hy => by rw [I.tuple_inj hy hq]; exact hx⟩, ⟨⟨y, ?_⟩, hit'.1.at fun o q => (sb.2 it (Ne.symm hne)).trans q, hne⟩, fun b hb => ?_⟩
    · have e1 : ((i + 1 : Nat) : Int) = (i : Int) + 1 := by omega
      rw [e1]; exact he'
    · have hb' : b < s.heap.objs.size := by
        have e' : b = e ∨ b = it := by simpa using hb
        rcases e' with z | z
        · rw [z]; exact hel
        · rw [z]; exact hil
      rw [upd_ne (Nat.ne_of_lt hb')]
      exact (hf b hb).1
  done := by
    intro X hP hw hK hc i pins s σ H E I hf st hg
    subst hP hw hK
    obtain ⟨⟨old, he⟩, hit, hne⟩ := st
    obtain ⟨xs, hq, hx⟩ := hg
    obtain ⟨its, rv, p, hz⟩ := I.tuple hq
    have hp : s.heap.IsTuple a its.toArray := p
    obtain ⟨f0, f1, f2, f3, f4, f5⟩ := hf it (by simp)
    have hl := rv.length
    have hT : s.TypeIs (.ref e) "enumerate" := ⟨_, he, rfl⟩
    unfold pyNext
    refine wpAny_bind (wpAny_attempt (wpAny_callSpecial?_slot (name := Str.ofString "__next__") hT PySem.F.slot_enumerate_next
      (wpAny_call_entry PySem.F.slot_enumerate_next hT PySem.F.entry_enumerate_next ?_ (PySem.F.args_enumerate_next_1 _))))
    show wpAny _ _ (field (.ref e) 2 >>= _) _ _ _
    refine wpAny_bind (wpAny_field he rfl (x := .ref it) rfl ?_)
    refine wpAny_bind (wpAny_nextOf_tuple_end (I.ok.hd hc) hit hp (by simp; omega) fun h' x hx' ho' => ?_)
    obtain ⟨o, ho, hc'⟩ := ho'
    refine wpAny_bind (wpAny_isInstance (T := "StopIteration") (b := true) ⟨o, ho, hc'⟩ isSubtype_stop ?_)
    exact wpAny_pure ⟨rfl, I.turned (t' := s.toks) (fun b o hb q => hx' b o hb q) f0 f1 f3 f4 f5⟩
  self := fun A i s Q E st h => let ⟨⟨_, he⟩, _⟩ := st; wpAny_pyIter_enum he h
/-- enumerate of a list or a tuple -/
def iEnums (K : Fg) (ta : TA) : TI := fun σ H R => ta σ H fun vs H1 => ∃ a, vs = [.ref a] ∧ (((∃ xs, SqL K H1 a xs) ∧ R (Ite K a) H1) ∨ ((∃ xs, SqT K H1 a xs) ∧ R (Iet K a) H1))
theorem pi_enums {X : Cx} {e : Expr} {ta : TA} {p pos tpos : Pos} {elts : List Expr} {kk : Nat} (hg : Gl X "enumerate") (hm : X.mg "enumerate" = none) (ha : PA X [e] ta) (hs : starEach [e] X.env = [(false, eval e X.env)]) :
    PI X (.Tuple elts kk tpos) (.Call (.Name "enumerate" p) [e] [] pos) (iEnums X.K ta) := by
  refine ⟨fun pins s σ H R I h => ?_⟩
  refine Call_ (ld_blt I hg hm boot_enumerate (PyProof.Rows.callWith_type1 (thn (ha.run pos pins s σ H _ I h) fun us s1 ⟨vs, H1, I1, r1, q1⟩ => ?_) hs rfl))
  obtain ⟨a, ex, q1⟩ := q1
  subst ex
  have new : ∀ b ∈ [s1.heap.objs.size + 1, s1.heap.objs.size], FpOk X pins H1 b := fun b hb => by
    have e' : b = s1.heap.objs.size + 1 ∨ b = s1.heap.objs.size := by simpa using hb
    have hle : s1.heap.objs.size ≤ b := by
      rcases e' with z | z
      · rw [z]; exact Nat.le_add_right _ _
      · rw [z]; exact Nat.le_refl _
    exact I1.fpOk hle (I1.hok.fresh hle)
  cases r1 with
  | cons r rr =>
    cases rr
    cases r
    rcases q1 with ⟨⟨xs, hq⟩, q⟩ | ⟨⟨xs, hq⟩, q⟩
    · obtain ⟨its, rv, p', hz⟩ := I1.list hq
      refine call_enumerate_list p'.isList fun h' he hit hsz hk => wpAny_pyIter_enum he ?_
      exact ⟨s1.heap.objs.size + 1, [s1.heap.objs.size + 1, s1.heap.objs.size], _, _, H1, rfl, I1.kept (t' := s1.toks) hk, turn_enum a (s1.heap.objs.size + 1) s1.heap.objs.size, ⟨⟨.none, he⟩, hit, Nat.succ_ne_self _⟩, new, q⟩
    · obtain ⟨its, rv, p', hz⟩ := I1.tuple hq
      have hp : s1.heap.IsTuple a its.toArray := p'
      refine enum_begins1 (PySem.begins_tuple a its.toArray) hp fun h' he hit hsz hk => wpAny_pyIter_enum he ?_
      exact ⟨s1.heap.objs.size + 1, [s1.heap.objs.size + 1, s1.heap.objs.size], _, _, H1, rfl, I1.kept (t' := s1.toks) hk, turn_enumT a (s1.heap.objs.size + 1) s1.heap.objs.size, ⟨⟨.none, he⟩, ⟨_, hit, rfl, rfl⟩, Nat.succ_ne_self _⟩, new, q⟩
/-! ### a dict's keys; the dict is locked from here on -/
def iKeysF (td : TE) : TI := fun σ H R => td σ H fun x H1 => ∃ d kvs, x = .ref d ∧ H1 d = some (.dK kvs) ∧ ∀ o, R (Itk d o kvs) (upd H1 d (.frz o (.dK kvs)))
theorem pi_keysF {X : Cx} {tg e : Expr} {td : TE} (he : PE X e td) : PI X tg e (iKeysF td) := by
  refine ⟨fun pins s σ H R I h => ?_⟩
  refine thn (he.run pins s σ H _ I h) fun u s1 ⟨x, H1, I1, rx, d, kvs, ex, hd, q⟩ => ?_
  subst ex
  obtain rfl : u = Value.ref d := rx
  obtain ⟨o, I2⟩ := I1.lock hd trivial
  obtain ⟨hs, hgd, hx, es, ep, vs, hdt, hsz, kv, hm⟩ := I2.frzK upd_same
  refine iter_keys hs hgd hx hdt (pi_one (tk := s1.toks) I2 _ (turn_keys _ hdt) ⟨_, Heap.get?_push_size _ rfl, rfl, ?_⟩ (q o))
  rw [hsz] <;> rfl
end Mn

/-! Expressions: the check against the row's text, and that what is checked does what the small language says. -/
namespace Mn
open PySem PySem.Spec PyProof.Rows L2
/-! ### the check -/
def D.beq : D → D → Bool
  | .non, .non => true
  | .bl a, .bl b => a == b
  | .int a, .int b => decide (a = b)
  | .str a, .str b => decide (a = b)
  | .tup a, .tup b => beqs a b
  | _, _ => false
where beqs : List D → List D → Bool
  | [], [] => true
  | x :: xs, y :: ys => x.beq y && beqs xs ys
  | _, _ => false
/-- a def: its global name, its number, how many arguments, its keyword-only parameter (the last one) with what stands for it when it is left out -/
structure Fe where
  x : Str
  f : Nat
  ar : Nat
  kw : Option (Str × D)
/-- where a text stands: its names by slot, its scope, the defs, the fields, methods and makers of classes, the constants, the built-ins' names that are free -/
structure Cxt where
  N : List Str
  sc : Scope
  blk : Bool
  fns : List Fe
  flds : List (Nat × Str)
  mts : List (Nat × Str × Nat × Nat)
  mks : List (Str × Nat × Nat × Nat)
  csts : List (Str × D)
  free : List Str
def visB (sc : Scope) (x : Str) : Bool := match sc.names.lookup x with
  | some .local => true | some .cell => true | some .free => true | _ => false
def locB (sc : Scope) (x : Str) : Bool := match sc.names.lookup x with
  | some .local => true | some .cell => true | _ => false
def glB (sc : Scope) (x : Str) : Bool := match sc.names.lookup x with
  | some .globalImplicit => true | _ => false
def okN (x : Str) : Bool := !(x == ("__debug__" : Str)) && !(x == ("__classdict__" : Str)) && !decide (x = ("__name__" : Str))
def Cxt.bltn (c : Cxt) (x : Str) (b : Str) : Bool := decide (x = b) && glB c.sc x && c.free.contains x && okN x
def cstB : D → Const → Bool
  | .non, .none => true
  | .bl a, .bool b => a == b
  | .int a, .int b => decide (a = b)
  | .str a, .str b => decide (a = b)
  | _, _ => false
def starred : Expr → Bool
  | .Starred _ _ => true
  | _ => false
def isSlice : Expr → Bool
  | .Slice _ _ _ _ => true
  | _ => false
def tyB (c : Cxt) (t : Ty) (x : Expr) : Bool := match t, x with
  | .int, .Name x _ => c.bltn x "int"
  | .bool, .Name x _ => c.bltn x "bool"
  | .str, .Name x _ => c.bltn x "str"
  | .tuple, .Name x _ => c.bltn x "tuple"
  | .list, .Name x _ => c.bltn x "list"
  | .tl, .Tuple [.Name x _, .Name y _] _ _ => c.bltn x "tuple" && c.bltn y "list"
  | _, _ => false
/-- tests that the layer has a rule for -/
def tOk : E → Bool
  | .ite _ _ _ => false
  | .and a b => tOk a && tOk b
  | .or a b => tOk a && tOk b
  | .not a => tOk a
  | _ => true
def isCall : Expr → Bool
  | .Call _ _ _ _ => true | _ => false
def isComp : Expr → Bool
  | .ListComp _ _ _ _ => true | .SetComp _ _ _ _ => true | .DictComp _ _ _ _ _ => true | _ => false
def isSet : Expr → Bool
  | .Set _ _ _ => true | _ => false
def isTup : Expr → Bool
  | .Tuple _ _ _ => true | _ => false
mutual
def chkTg (c : Cxt) : Tg → Expr → Bool
  | .nm i, x => (match x with
    | .Name x _ => decide (c.N[i]? = some x) && locB c.sc x && (!c.blk || (match c.sc.names.lookup x with | some .local => true | _ => false))
    | _ => false)
  | .tp ts, x => (match x with
    | .Tuple xs _ _ => chkTgs c ts xs
    | _ => false)
def chkTgs (c : Cxt) : Tgs → List Expr → Bool
  | .nil, xs => xs.isEmpty
  | .cons t ts, xs => (match xs with
    | x :: xs => chkTg c t x && chkTgs c ts xs
    | [] => false)
end
mutual
def Tg.slots : Tg → List Nat
  | .nm i => [i]
  | .tp ts => ts.slots
def Tgs.slots : Tgs → List Nat
  | .nil => []
  | .cons t ts => t.slots ++ ts.slots
end
/-- names of a block by slot -/
def ownP (N : List Str) (own : List Nat) : List (Str × Nat) := own.map fun i => (N.getD i "", i)
def inBlk (c : Cxt) (scope : Scope) : Cxt := { c with sc := relS scope c.sc, blk := true }
/-- which type, which built-in a method is of -/
def bmT : Bm → String × String × String
  | .append => ("list", "append", "list.append") | .pop => ("list", "pop", "list.pop") | .popAt => ("list", "pop", "list.pop") | .insert => ("list", "insert", "list.insert")
  | .remove => ("list", "remove", "list.remove") | .index => ("list", "index", "list.index") | .get1 => ("dict", "get", "dict.get") | .get2 => ("dict", "get", "dict.get")
  | .dpop => ("dict", "pop", "dict.pop") | .bitlen => ("int", "bit_length", "int.bit_length")
mutual
def chkE : E → Cxt → Expr → Bool
  | .bad, _, _ => true
  | .no, _, _ => false
  | .v i, c, x => (match x with
    | .Name x _ => decide (c.N[i]? = some x) && visB c.sc x && okN x
    | _ => false)
  | .cst d, c, x => (match x with
    | .Constant k _ _ => cstB d k
    | .Name x _ => glB c.sc x && okN x && c.csts.any fun p => decide (p.1 = x) && p.2.beq d
    | _ => false)
  | .and a b, c, x => (match x with
    | .BoolOp .And (x :: y :: r) pos => chkE a c x && (match r with
      | [] => chkE b c y
      | z :: r => chkE b c (.BoolOp .And (y :: z :: r) pos))
    | _ => false)
  | .or a b, c, x => (match x with
    | .BoolOp .Or (x :: y :: r) pos => chkE a c x && (match r with
      | [] => chkE b c y
      | z :: r => chkE b c (.BoolOp .Or (y :: z :: r) pos))
    | _ => false)
  | .not a, c, x => (match x with
    | .UnaryOp .Not x _ => chkE a c x
    | _ => false)
  | .ite t a b, c, x => (match x with
    | .IfExp x y z _ => chkE t c x && tOk t && chkE a c y && chkE b c z
    | _ => false)
  | .bin op a b, c, x => (match x with
    | .BinOp x op' y _ => decide (op = op') && chkE a c x && chkE b c y
    | _ => false)
  | .neg a, c, x => (match x with
    | .UnaryOp .USub x _ => chkE a c x
    | _ => false)
  | .cmp op a b, c, x => (match x with
    | .Compare x [op'] [y] _ => decide (op = op') && chkE a c x && chkE b c y && !behindInMarks op y
    | _ => false)
  | .chn op op2 a b d, c, x => (match x with
    | .Compare x [o1, o2] [y, z] _ => decide (op = o1) && decide (op2 = o2) && chkE a c x && chkE b c y && chkE d c z && !behindInMarks op y && !behindInMarks op2 z
    | _ => false)
  | .ix a i, c, x => (match x with
    | .Subscript x y _ => chkE a c x && chkE i c y && !isSlice y
    | _ => false)
  | .sl a lo hi, c, x => (match x with
    | .Subscript x (.Slice l h none _) _ => chkE a c x && (match l with
      | none => (match lo with | .no => true | _ => false)
      | some l => chkE lo c l) && (match h with
      | none => (match hi with | .no => true | _ => false)
      | some h => chkE hi c h)
    | _ => false)
  | .rev a, c, x => (match x with
    | .Subscript x (.Slice none none (some (.UnaryOp .USub (.Constant (.int k) _ _) _)) _) _ => decide (k = 1) && chkE a c x
    | _ => false)
  | .tup es, c, x => (match x with
    | .Tuple xs _ _ => chkEs es c xs
    | _ => false)
  | .lst es, c, x => (match x with
    | .List xs _ => chkEs es c xs
    | _ => false)
  | .dct ks vs, c, x => (match ks, vs with
    | .nil, .nil => (match x with
      | .Dict [] [] _ => true
      | _ => false)
    | _, _ => false)
  | .call f es, c, x => (match x with
    | .Call (.Name x _) xs [] _ => glB c.sc x && okN x && chkEs es c xs && c.fns.any fun p => decide (p.x = x) && decide (p.f = f) && decide (p.ar = xs.length) && p.kw.isNone
    | _ => false)
  | .calld f es d, c, x => (match x with
    | .Call (.Name x _) (y :: xs) [] _ => glB c.sc x && okN x && chkEs es c (y :: xs) && c.fns.any fun p => decide (p.x = x) && decide (p.f = f) && decide (p.ar = xs.length + 2) && (match p.kw with | some q => q.2.beq d | none => false)
    | _ => false)
  | .callk f es k, c, x => (match x with
    | .Call (.Name x _) (y :: xs) [⟨some n, z, _⟩] _ => glB c.sc x && okN x && chkEs es c (y :: xs) && chkE k c z && c.fns.any fun p => decide (p.x = x) && decide (p.f = f) && decide (p.ar = xs.length + 2) && (match p.kw with | some q => decide (q.1 = n) | none => false)
    | _ => false)
  | .blt b es, c, x => (match b with
    | .len => (match x with
      | .Call (.Name x _) [y] [] _ => c.bltn x "len" && chkEs es c [y]
      | _ => false)
    | .isi t => (match x with
      | .Call (.Name x _) [y, z] [] _ => c.bltn x "isinstance" && chkEs es c [y] && tyB c t z
      | _ => false)
    | .max2 => (match x with
      | .Call (.Name x _) [y, z] [] _ => c.bltn x "max" && chkEs es c [y, z]
      | _ => false)
    | .min2 => (match x with
      | .Call (.Name x _) [y, z] [] _ => c.bltn x "min" && chkEs es c [y, z]
      | _ => false)
    | .list1 => (match x with
      | .Call (.Name x _) [y] [] _ => c.bltn x "list" && chkEs es c [y]
      | _ => false)
    | .tuple1 => (match x with
      | .Call (.Name x _) [y] [] _ => c.bltn x "tuple" && chkEs es c [y]
      | _ => false)
    | .int1 => (match x with
      | .Call (.Name x _) [y] [] _ => c.bltn x "int" && chkEs es c [y]
      | _ => false)
    | .dict1 => (match x with
      | .Call (.Name x _) [y] [] _ => c.bltn x "dict" && chkEs es c [y]
      | _ => false)
    | .sorted1 => (match x with
      | .Call (.Name x _) [y] [] _ => c.bltn x "sorted" && chkEs es c [y]
      | _ => false)
    | .min1 => (match x with
      | .Call (.Name x _) [y] [] _ => c.bltn x "min" && chkEs es c [y]
      | _ => false)
    | .max1 => (match x with
      | .Call (.Name x _) [y] [] _ => c.bltn x "max" && chkEs es c [y]
      | _ => false)
    | .sum1 => (match x with
      | .Call (.Name x _) [y] [] _ => c.bltn x "sum" && chkEs es c [y]
      | _ => false)
    | .any1 => (match x with
      | .Call (.Name x _) [y] [] _ => c.bltn x "any" && chkEs es c [y]
      | _ => false)
    | .all1 => (match x with
      | .Call (.Name x _) [y] [] _ => c.bltn x "all" && chkEs es c [y]
      | _ => false)
    | .maxd => (match x with
      | .Call (.Name x _) [y] [⟨some n, z, _⟩] _ => c.bltn x "max" && decide (n = "default") && chkEs es c [y, z]
      | _ => false)
    | .lrng => (match x with
      | .Call (.Name x _) [.Call (.Name r _) [y] [] _] [] _ => c.bltn x "list" && c.bltn r "range" && chkEs es c [y]
      | _ => false))
  | .bm m o es, c, x => (match x with
    | .Call (.Attribute y n p) xs [] q => decide (n = (bmT m).2.1) && chkE o c y && chkEs es c xs && !isCall y && (p.endLine == q.line) && decide (xs.length < 3)
    | _ => false)
  | .attr k o f, c, x => (match x with
    | .Attribute y n _ => decide (n = f) && chkE o c y && !isCall y && c.flds.any fun p => decide (p.1 = k) && decide (p.2 = f)
    | _ => false)
  | .meth k m f o es, c, x => (match x with
    | .Call (.Attribute y n ap) xs [] q => decide (n = m) && chkE o c y && chkEs es c xs && !isCall y && (ap.endLine == q.line) && decide (xs.length < 20) && c.mts.any fun p => decide (p.1 = k) && decide (p.2.1 = m) && decide (p.2.2.1 = f) && decide (p.2.2.2 = xs.length + 1)
    | _ => false)
  | .make k f es, c, x => (match x with
    | .Call (.Name n _) xs [] _ => glB c.sc n && okN n && chkEs es c xs && c.mks.any fun p => decide (p.1 = n) && decide (p.2.1 = k) && decide (p.2.2.1 = f) && decide (p.2.2.2 = xs.length + 1)
    | _ => false)
  | .lc own t it cd e, c, x => (match x with
    | .ListComp y [⟨tg, i, fs, 0⟩] scope _ => blkC c.N c.sc scope (ownP c.N own) && chkTg (inBlk c scope) t tg && t.slots.all (own.contains ·) && chkIt it c (isTup tg) i && !isSet i && chkE e (inBlk c scope) y && (match fs with
      | [] => (match cd with | .cst (.bl true) => true | _ => false)
      | [z] => chkE cd (inBlk c scope) z && tOk cd
      | _ => false)
    | _ => false)
  | .dc own t it k e, c, x => (match x with
    | .DictComp z y [⟨tg, i, [], 0⟩] scope _ => blkC c.N c.sc scope (ownP c.N own) && chkTg (inBlk c scope) t tg && t.slots.all (own.contains ·) && chkIt it c (isTup tg) i && !isSet i && chkE k (inBlk c scope) z && chkE e (inBlk c scope) y
    | _ => false)
def chkEs : Es → Cxt → List Expr → Bool
  | .nil, _, xs => xs.isEmpty
  | .cons e es, c, xs => (match xs with
    | x :: xs => chkE e c x && !starred x && chkEs es c xs
    | [] => false)
/-- what is walked; tp: it is put into several names -/
def chkIt : It → Cxt → Bool → Expr → Bool
  | .seq e, c, _, x => chkE e c x
  | .rng a b, c, _, x => (match x with
    | .Call (.Name r _) [y] [] _ => c.bltn r "range" && (match a with | .cst (.int 0) => true | _ => false) && chkE b c y && !starred y
    | .Call (.Name r _) [y, z] [] _ => c.bltn r "range" && chkE a c y && !starred y && chkE b c z && !starred z
    | _ => false)
  | .rngd a b, c, _, x => (match x with
    | .Call (.Name r _) [y, z, .UnaryOp .USub (.Constant (.int k) _ _) _] [] _ => c.bltn r "range" && decide (k = 1) && chkE a c y && !starred y && chkE b c z && !starred z
    | _ => false)
  | .rng2 a b, c, _, x => (match x with
    | .Call (.Name r _) [y, z, .Constant (.int k) _ _] [] _ => c.bltn r "range" && decide (k = 2) && chkE a c y && !starred y && chkE b c z && !starred z
    | _ => false)
  | .enum e, c, tp, x => (match x with
    | .Call (.Name r _) [y] [] _ => c.bltn r "enumerate" && tp && chkE e c y && !starred y
    | _ => false)
  | .keys e, c, _, x => chkE e c x
end
/-! ### what a context must bear -/
/-- the promise of a def, by what the small language says of its call -/
def spOf (K : Fg) (cl : Cl) (F : Sem) (f ar : Nat) : Sp := fun vs H Q _ => ∃ m S ds, RS K cl m H S ∧ RDs K m H ds vs ∧ vs.length = ar ∧ F f ds S (up K cl m H Q) noX
structure FnAt (cl : Cl) (F : Sem) (X : Cx) (x : Str) (f ar : Nat) (kw : Option (Str × D)) : Prop where
  ex : ∃ k fa fd ps, FnOk X.prog X.w X.K X.mg X.base CX0 k fa fd ps (spOf X.K cl F f ar) ∧ Room k X.A ∧ X.mg x = some (.ref fa) ∧ PySem.W.keepIn X.K (.ref fa) = true ∧
    (match kw with
    | none => Binds X.K fd ps []
    | some q => (∃ dv ds, Vals [dv] ds ∧ Binds X.K fd ps ds ∧ ∀ m H, RD X.K m H q.2 dv) ∧ KBn X.K fd ps (ar - 1) [q.1] (fun us ws => us ++ ws) (fun vs zs => vs ++ zs))
structure MtAt (cl : Cl) (F : Sem) (X : Cx) (c : Nat) (m : Str) (f ar : Nat) : Prop where
  ex : ∃ C k g fd ps, cl c = some C ∧ Cls X.K C ∧ Meth X.K C m g ∧ FnOk X.prog X.w X.K X.mg X.base CX0 k g fd ps (spOf X.K cl F f ar) ∧ Room k X.A ∧ Binds X.K fd ps []
structure MkAt (cl : Cl) (F : Sem) (X : Cx) (x : Str) (c f ar : Nat) : Prop where
  ex : ∃ C k g fd ps, cl c = some C ∧ Mk X.K C g ∧ X.mg x = some (.ref C) ∧ FnOk X.prog X.w X.K X.mg X.base CX0 k g fd ps (spOf X.K cl F f ar) ∧ Room (k + 1) X.A ∧ Binds X.K fd ps []
structure XOk (c : Cxt) (cl : Cl) (F : Sem) (X : Cx) : Prop where
  N : X.N = c.N
  nd : X.N.Nodup
  sc : X.env.scope = c.sc
  calm : X.calm = true
  units : X.A.units + 150 < cLine
  tg : c.blk = false → ∀ x, X.fn x = true
  fns : ∀ p ∈ c.fns, FnAt cl F X p.x p.f p.ar p.kw
  flds : ∀ k f, (k, f) ∈ c.flds → ∃ C, cl k = some C ∧ Cls X.K C ∧ NoAttr X.K C f
  mts : ∀ k m f ar, (k, m, f, ar) ∈ c.mts → MtAt cl F X k m f ar
  mks : ∀ x k f ar, (x, k, f, ar) ∈ c.mks → MkAt cl F X x k f ar
  csts : ∀ x d, (x, d) ∈ c.csts → ∃ u v, X.mg x = some u ∧ RelV v u ∧ ∀ m H, RD X.K m H d v
  free : ∀ x ∈ c.free, X.mg x = none
/-! ### readings -/
def LE (K : Fg) (cl : Cl) (t : Env → Store → DK → Prop) : TE := fun σ H Q => ∃ m ρ S, RS K cl m H S ∧ RE K m H ρ σ ∧ t ρ S (up K cl m H Q)
abbrev lE (K : Fg) (cl : Cl) (F : Sem) (e : E) : TE := LE K cl fun ρ S Q => wpE F e ρ S Q noX
def lA (K : Fg) (cl : Cl) (F : Sem) (es : Es) : TA := fun σ H Q => ∃ m ρ S, RS K cl m H S ∧ RE K m H ρ σ ∧ wpEs F es ρ S (fun ds S' => ∀ m' H' vs, Le m H m' H' → RS K cl m' H' S' → RDs K m' H' ds vs → Q vs H') noX
theorem PE.mono {X : Cx} {e : Expr} {t t' : TE} (h : PE X e t) (k : ∀ σ H Q, t' σ H Q → t σ H Q) : PE X e t' := ⟨fun pins s σ H Q I q => h.run pins s σ H Q I (k σ H Q q)⟩
theorem PT.mono {X : Cx} {e : Expr} {t t' : TT} (h : PT X e t) (k : ∀ σ H Q, t' σ H Q → t σ H Q) : PT X e t' := ⟨fun pins s σ H Q I q => h.run pins s σ H Q I (k σ H Q q)⟩
theorem PW.mono {X : Cx} {e : Expr} {t t' : TT} (h : PW X e t) (k : ∀ σ H Q, t' σ H Q → t σ H Q) : PW X e t' := ⟨fun wh pins s σ H Q I q => h.run wh pins s σ H Q I (k σ H Q q)⟩
theorem PA.mono {X : Cx} {e : List Expr} {t t' : TA} (h : PA X e t) (k : ∀ σ H Q, t' σ H Q → t σ H Q) : PA X e t' := ⟨fun pos pins s σ H Q I q => h.run pos pins s σ H Q I (k σ H Q q)⟩
theorem PO.mono {X : Cx} {e : Option Expr} {t t' : TO} (h : PO X e t) (k : ∀ σ H Q, t' σ H Q → t σ H Q) : PO X e t' := ⟨fun pins s σ H Q I q => h.run pins s σ H Q I (k σ H Q q)⟩
theorem PE.bad {X : Cx} {e : Expr} {t : TE} (h : ∀ σ H Q, ¬ t σ H Q) : PE X e t := ⟨fun pins s σ H Q I q => (h σ H Q q).elim⟩
theorem PT.bad {X : Cx} {e : Expr} {t : TT} (h : ∀ σ H Q, ¬ t σ H Q) : PT X e t := ⟨fun pins s σ H Q I q => (h σ H Q q).elim⟩
section
variable {K : Fg} {cl : Cl} {F : Sem} {m m1 : List Addr} {H H1 : Hp} {S : Store} {Q : VK}
theorem up_le (x : Le m H m1 H1) {d : D} (h : up K cl m H Q d S) : up K cl m1 H1 Q d S := fun m' H' v le => h m' H' v (x.trans le)
theorem le_step (hF : SemMono F) (e : E) {σ : L2.St} {ρ : Env} {P : DK} (R : RS K cl m H S) (re : RE K m H ρ σ) (h : wpE F e ρ S P noX)
    (k : ∀ d S' m' H' v, P d S' → Le m H m' H' → RS K cl m' H' S' → RD K m' H' d v → RE K m' H' ρ σ → Q v H') : lE K cl F e σ H Q :=
  ⟨m, ρ, S, R, re, wpE_mono hF e (fun d S' q m' H' v le R' rd => k d S' m' H' v q le R' rd (re.mono le)) (fun _ _ z => z) h⟩
theorem la_step (hF : SemMono F) (es : Es) {σ : L2.St} {ρ : Env} {P : List D → Store → Prop} {Q : List V → Hp → Prop} (R : RS K cl m H S) (re : RE K m H ρ σ) (h : wpEs F es ρ S P noX)
    (k : ∀ ds S' m' H' vs, P ds S' → Le m H m' H' → RS K cl m' H' S' → RDs K m' H' ds vs → RE K m' H' ρ σ → Q vs H') : lA K cl F es σ H Q :=
  ⟨m, ρ, S, R, re, wpEs_mono hF es (fun d S' q m' H' v le R' rd => k d S' m' H' v q le R' rd (re.mono le)) (fun _ _ z => z) h⟩
end
/-! ### built-ins -/
def tyN (S : Store) : D → Option String
  | .non => some "NoneType" | .bl _ => some "bool" | .int _ => some "int" | .str _ => some "str" | .tup _ => some "tuple" | .fl _ => some "list"
  | .ref n => (lst? S n).map fun _ => "list"
theorem RD.ty {K : Fg} {cl : Cl} {m : List Addr} {H : Hp} {S : Store} {d : D} {v : V} {n : String} (R : RS K cl m H S) (r : RD K m H d v) (e : tyN S d = some n) : TyX K H v (.type n) := by
  cases r with
  | non => cases e; exact .base .non
  | bl b => cases e; exact .base (.bl b)
  | int b => cases e; exact .base (.int b)
  | str b => cases e; exact .base (.str b)
  | tup h q =>
    cases e
    rcases h with (h | ⟨o, h⟩) | ⟨o, its, k, h1, h2, _⟩
    · exact .base (.tup h)
    · exact .fTuple h
    · exact .kTuple h1 h2
  | fl h q =>
    cases e
    rcases h with ⟨o, h⟩ | ⟨o, its, k, h1, h2, _⟩
    · exact .base (.frz h)
    · exact .kList h1 h2
  | @ref i a h =>
    have e2 : (lst? S i).map (fun _ => "list") = some n := e
    cases q : lst? S i with
    | none => rw [q] at e2; cases e2
    | some l =>
      rw [q] at e2
      cases e2
      obtain ⟨vs, h1, _⟩ := R.at_ i a _ h (lst_some q)
      exact .base (.lst h1)
def Ty.names : Ty → List String
  | .int => ["int"] | .bool => ["bool"] | .str => ["str"] | .tuple => ["tuple"] | .list => ["list"] | .tl => ["tuple", "list"]
def anyTy (n : String) : List String → Option Bool
  | [] => some false
  | t :: r => match kitB n t with
    | some true => some true
    | some false => anyTy n r
    | none => none
theorem anyTy_int : anyTy "int" ["int"] = some true ∧ anyTy "bool" ["int"] = some true ∧ anyTy "NoneType" ["int"] = some false ∧ anyTy "str" ["int"] = some false ∧ anyTy "tuple" ["int"] = some false ∧ anyTy "list" ["int"] = some false := by decide +kernel
theorem anyTy_bool : anyTy "int" ["bool"] = some false ∧ anyTy "bool" ["bool"] = some true ∧ anyTy "NoneType" ["bool"] = some false ∧ anyTy "str" ["bool"] = some false ∧ anyTy "tuple" ["bool"] = some false ∧ anyTy "list" ["bool"] = some false := by decide +kernel
theorem anyTy_str : anyTy "int" ["str"] = some false ∧ anyTy "bool" ["str"] = some false ∧ anyTy "NoneType" ["str"] = some false ∧ anyTy "str" ["str"] = some true ∧ anyTy "tuple" ["str"] = some false ∧ anyTy "list" ["str"] = some false := by decide +kernel
theorem anyTy_tuple : anyTy "int" ["tuple"] = some false ∧ anyTy "bool" ["tuple"] = some false ∧ anyTy "NoneType" ["tuple"] = some false ∧ anyTy "str" ["tuple"] = some false ∧ anyTy "tuple" ["tuple"] = some true ∧ anyTy "list" ["tuple"] = some false := by decide +kernel
theorem anyTy_list : anyTy "int" ["list"] = some false ∧ anyTy "bool" ["list"] = some false ∧ anyTy "NoneType" ["list"] = some false ∧ anyTy "str" ["list"] = some false ∧ anyTy "tuple" ["list"] = some false ∧ anyTy "list" ["list"] = some true := by decide +kernel
theorem anyTy_tl : anyTy "int" ["tuple", "list"] = some false ∧ anyTy "bool" ["tuple", "list"] = some false ∧ anyTy "NoneType" ["tuple", "list"] = some false ∧ anyTy "str" ["tuple", "list"] = some false ∧ anyTy "tuple" ["tuple", "list"] = some true ∧ anyTy "list" ["tuple", "list"] = some true := by decide +kernel
theorem isTy_any {S : Store} {x : D} {t : Ty} {b : Bool} (h : isTy S x t = some b) : ∃ n, tyN S x = some n ∧ anyTy n t.names = some b := by
  obtain ⟨i1, i2, i3, i4, i5, i6⟩ := anyTy_int
  obtain ⟨b1, b2, b3, b4, b5, b6⟩ := anyTy_bool
  obtain ⟨s1, s2, s3, s4, s5, s6⟩ := anyTy_str
  obtain ⟨t1, t2, t3, t4, t5, t6⟩ := anyTy_tuple
  obtain ⟨l1, l2, l3, l4, l5, l6⟩ := anyTy_list
  obtain ⟨m1, m2, m3, m4, m5, m6⟩ := anyTy_tl
  cases x with
  | ref n =>
    cases q : lst? S n with
    | none => cases t <;> simp [isTy, isL, q] at h
    | some l => refine ⟨"list", by simp [tyN, q], ?_⟩; cases t <;> simp [isTy, isL, q] at h <;> subst h <;> assumption
  | _ => cases t <;> (simp [isTy, isL] at h; subst h; exact ⟨_, rfl, by assumption⟩)
theorem kitAny_of {K : Fg} {n : String} : ∀ {ts : List String} {b : Bool}, anyTy n ts = some b → PySem.W.kitAny K (.type n) (ts.map Value.type) = some b
  | [], _, h => h
  | t :: r, b, h => by
    unfold anyTy at h
    rw [List.map_cons]
    unfold PySem.W.kitAny
    cases e : kitB n t with
    | none => rw [e] at h; cases h
    | some c =>
      rw [e] at h
      rw [kit_ty (K := K) e]
      cases c with
      | true => exact h
      | false => exact kitAny_of h
theorem kitOne_of {K : Fg} {n t : String} {b : Bool} (h : anyTy n [t] = some b) : PySem.W.kitOne K (.type n) (.type t) = some b := by
  unfold anyTy at h
  cases e : kitB n t with
  | none => rw [e] at h; cases h
  | some c =>
    rw [e] at h
    rw [kit_ty (K := K) e]
    cases c with
    | true => exact h
    | false => exact h
section
variable {X : Cx} {cl : Cl}
theorem blt_len : CallR X (.builtin "len") (rBt X.K cl .len) := by
  intro pins s σ H xs us Q I r ⟨m, S, ds, R, rd, h⟩
  replace h : bLen ds S (up X.K cl m H Q) := h
  unfold bLen at h
  split at h
  · rename_i d
    split at h
    · rename_i n e
      cases rd with
      | cons r1 r2 =>
        cases r2
        have hl := lim_le
        have hq := up_here h.2 R (.int _)
        have hn := h.1
        cases r1 with
        | tup h1 q1 =>
          cases e
          exact call_len pins s σ H _ us Q I r ⟨_, _, rfl, .inr ⟨_, h1, q1.length⟩, hq⟩
        | fl h1 q1 =>
          cases e
          exact call_len pins s σ H _ us Q I r ⟨_, _, rfl, .inl ⟨_, h1.sq, q1.length⟩, hq⟩
        | str x =>
          cases e
          exact call_len pins s σ H _ us Q I r ⟨_, _, rfl, ⟨by omega, rfl⟩, hq⟩
        | @ref k a h1 =>
          unfold len? at e
          dsimp only at e
          split at e
          · rename_i l g
            cases e
            obtain ⟨vs, h2, q2⟩ := R.at_ k a _ h1 g
            exact call_len pins s σ H _ us Q I r ⟨_, _, rfl, .inl ⟨_, SqL.of h2, q2.length⟩, hq⟩
          · rename_i l g
            cases e
            obtain ⟨kvs, h2, q2⟩ := R.at_ k a _ h1 g
            rw [q2.length] at hq
            exact call_lenD pins s σ H _ us Q I r ⟨_, _, rfl, h2, hq⟩
          · cases e
        | _ => cases e
    · exact h.elim
  · exact h.elim
theorem blt_isi (t : Ty) (vt : V) (ut : Value) (hn : t.names = [match vt with | .ty n => n | _ => ""]) (hk : ClsV vt ut) (hv : ∃ n, vt = .ty n) {pins : List (Addr × Obj)} {s : Shared} {σ : L2.St} {H : Hp} {v : V} {us : List Value} {Q : VK} (I : Inv X pins σ H s) (r : Vals [v, vt] us)
    {m : List Addr} {S : Store} {d : D} (R : RS X.K cl m H S) (rd : RD X.K m H d v) (h : bIsi t [d] S (up X.K cl m H Q)) : wpAny (model X.prog X.w) X.A (call (.builtin "isinstance") us) (EP X pins σ Q) X.xe s := by
  unfold bIsi at h
  dsimp only at h
  split at h
  · rename_i b e
    obtain ⟨n, e1, e2⟩ := isTy_any e
    obtain ⟨k, rfl⟩ := hv
    cases hk
    rw [hn] at e2
    exact call_isi pins s σ H _ us Q I r ⟨v, .ty k, .type n, .type k, b, rfl, .ty k, rd.ty R e1, kitOne_of e2, up_here h R (.bl _)⟩
  · exact h.elim
theorem blt_max2 (hc : X.calm = true) : CallR X (.builtin "max") (rBt X.K cl .max2) := by
  intro pins s σ H xs us Q I r ⟨m, S, ds, R, rd, h⟩
  replace h : b2I imax ds S (up X.K cl m H Q) := h
  unfold b2I at h
  split at h
  · cases rd with
    | cons r1 r2 =>
      cases r2 with
      | cons r2 r3 =>
        cases r3; cases r1; cases r2
        exact call_max2 hc pins s σ H _ us Q I r ⟨_, _, rfl, up_here h R (.int _)⟩
  · exact h.elim
theorem blt_min2 (hc : X.calm = true) : CallR X (.builtin "min") (rBt X.K cl .min2) := by
  intro pins s σ H xs us Q I r ⟨m, S, ds, R, rd, h⟩
  replace h : b2I imin ds S (up X.K cl m H Q) := h
  unfold b2I at h
  split at h
  · cases rd with
    | cons r1 r2 =>
      cases r2 with
      | cons r2 r3 =>
        cases r3; cases r1; cases r2
        exact call_min2 hc pins s σ H _ us Q I r ⟨_, _, rfl, up_here h R (.int _)⟩
  · exact h.elim
end
end Mn

/-! What is checked does what the small language says: expressions. -/
namespace Mn
open PySem PySem.Spec PyProof.Rows L2
theorem and3 {a b c : Bool} (h : (a && b && c) = true) : a = true ∧ b = true ∧ c = true := by
  rw [Bool.and_eq_true, Bool.and_eq_true] at h
  exact ⟨h.1.1, h.1.2, h.2⟩
theorem and2 {a b : Bool} (h : (a && b) = true) : a = true ∧ b = true := Bool.and_eq_true_iff.mp h
mutual
theorem D.beq_eq : ∀ {a b : D}, a.beq b = true → a = b
  | .non, b, h => by cases b <;> first | rfl | cases h
  | .bl x, b, h => by
    cases b <;> first | (cases h; done) | skip
    rw [show x = _ from eq_of_beq h]
  | .int x, b, h => by
    cases b <;> first | (cases h; done) | skip
    rw [show x = _ from of_decide_eq_true h]
  | .str x, b, h => by
    cases b <;> first | (cases h; done) | skip
    rw [show x = _ from of_decide_eq_true h]
  | .tup x, b, h => by
    cases b <;> first | (cases h; done) | skip
    rw [show x = _ from D.beqs_eq h]
  | .fl _, _, h => by cases h
  | .ref _, _, h => by cases h
theorem D.beqs_eq : ∀ {a b : List D}, D.beq.beqs a b = true → a = b
  | [], b, h => by cases b <;> first | rfl | cases h
  | x :: xs, b, h => by
    cases b with
    | nil => cases h
    | cons y ys =>
      obtain ⟨h1, h2⟩ := and2 h
      rw [D.beq_eq h1, D.beqs_eq h2]
end
theorem star_not {e : Expr} {es : List Expr} {env : PySem.Env} (h : starred e = false) : starEach (e :: es) env = (false, eval e env) :: starEach es env := by
  cases e <;> first | rfl | cases h
theorem star_any {env : PySem.Env} {pos : Pos} : ∀ {es : List Expr}, (∀ x ∈ es, starred x = false) → (backTo pos (starEach es env)).any (·.1) = false
  | [], _ => rfl
  | e :: es, h => by
    rw [star_not (h e List.mem_cons_self)]
    show (false || (backTo pos (starEach es env)).any (·.1)) = false
    rw [star_any fun x hx => h x (List.mem_cons_of_mem _ hx)]
    rfl
theorem chkEs_star {c : Cxt} : ∀ {es : Es} {xs : List Expr}, chkEs es c xs = true → ∀ x ∈ xs, starred x = false
  | .nil, xs, h => by
    cases xs with
    | nil => intro x hx; cases hx
    | cons _ _ => cases h
  | .cons e es, xs, h => by
    cases xs with
    | nil => cases h
    | cons y ys =>
      obtain ⟨h1, h2, h3⟩ := and3 (show (chkE e c y && !starred y && chkEs es c ys) = true from h)
      intro x hx
      rcases List.mem_cons.mp hx with rfl | hx
      · simpa using h2
      · exact chkEs_star h3 x hx
theorem chkEs_len {c : Cxt} : ∀ {es : Es} {xs : List Expr}, chkEs es c xs = true → es.len = xs.length
  | .nil, xs, h => by
    cases xs with
    | nil => rfl
    | cons _ _ => cases h
  | .cons e es, xs, h => by
    cases xs with
    | nil => cases h
    | cons y ys =>
      obtain ⟨h1, h2, h3⟩ := and3 (show (chkE e c y && !starred y && chkEs es c ys) = true from h)
      show es.len + 1 = ys.length + 1
      rw [chkEs_len h3]
theorem vis_of {sc : Scope} {x : Str} (h : visB sc x = true) : Vis sc x := by
  unfold visB at h
  split at h <;> first | exact .inl (by assumption) | exact .inr (.inl (by assumption)) | exact .inr (.inr (by assumption)) | cases h
theorem loc_of {sc : Scope} {x : Str} (h : locB sc x = true) : Loc sc x := by
  unfold locB at h
  split at h <;> first | exact .inl (by assumption) | exact .inr (by assumption) | cases h
theorem gl_of {sc : Scope} {x : Str} (h : glB sc x = true) : sc.names.lookup x = some .globalImplicit := by
  unfold glB at h
  split at h <;> first | assumption | cases h
theorem okN_of {x : Str} (h : okN x = true) : (x == ("__debug__" : Str)) = false ∧ (x == ("__classdict__" : Str)) = false ∧ x ≠ ("__name__" : Str) := by
  obtain ⟨h1, h2, h3⟩ := and3 h
  simp at h1 h2 h3
  exact ⟨by simpa using h1, by simpa using h2, h3⟩
theorem boot_isinstance : bootBuiltins "isinstance" = some (.builtin "isinstance") := by decide +kernel
theorem boot_max : bootBuiltins "max" = some (.builtin "max") := by decide +kernel
theorem boot_min : bootBuiltins "min" = some (.builtin "min") := by decide +kernel
theorem boot_intT : bootBuiltins "int" = some (.type "int") := by decide +kernel
theorem boot_boolT : bootBuiltins "bool" = some (.type "bool") := by decide +kernel
theorem boot_strT : bootBuiltins "str" = some (.type "str") := by decide +kernel
theorem boot_tupleT : bootBuiltins "tuple" = some (.type "tuple") := by decide +kernel
theorem boot_listT : bootBuiltins "list" = some (.type "list") := by decide +kernel
section
variable {c : Cxt} {cl : Cl} {F : Sem} {X : Cx}
theorem bltn_of (ok : XOk c cl F X) {x b : Str} (h : c.bltn x b = true) : x = b ∧ Gl X x ∧ X.mg x = none ∧ x ≠ ("__name__" : Str) ∧ (x == ("__debug__" : Str)) = false := by
  unfold Cxt.bltn at h
  obtain ⟨h123, h4⟩ := and2 h
  obtain ⟨h1, h2, h3⟩ := and3 h123
  refine ⟨of_decide_eq_true h1, ?_, ok.free x (by simpa using h3), (okN_of h4).2.2, (okN_of h4).1⟩
  show X.env.scope.names.lookup x = _
  rw [ok.sc]
  exact gl_of h2
/-- a built-in type's name, as a value -/
theorem pe_tyN (ok : XOk c cl F X) {x : Str} {n : String} {pos : Pos} (h : c.bltn x n = true) (hv : bootBuiltins (n : Str) = some (.type n)) : PE X (.Name x pos) (tC (.ty n)) := by
  obtain ⟨e, h1, h2, h3, h4⟩ := bltn_of ok h
  subst e
  exact pe_bltn h1 h2 hv rfl h3 h4
theorem pe_isi1 (hF : SemMono F) (ok : XOk c cl F X) {x : Str} {n : String} {p p' pos : Pos} {y : Expr} {e : E} (t : Ty) (hn : t.names = [n]) (hx : c.bltn x "isinstance" = true) (hy : PE X y (lE X.K cl F e)) (sy : starred y = false) {z : Str} (hz : c.bltn z n = true) (hv : bootBuiltins (n : Str) = some (.type n)) :
    PE X (.Call (.Name x p) [y, .Name z p'] [] pos) (lE X.K cl F (.blt (.isi t) (.cons e .nil))) := by
  obtain ⟨ex, h1, h2, h3, h4⟩ := bltn_of ok hx
  subst ex
  have r : CallR X (.builtin "isinstance") (fun vs H Q => ∃ v m S d, vs = [v, .ty n] ∧ RS X.K cl m H S ∧ RD X.K m H d v ∧ bIsi t [d] S (up X.K cl m H Q)) := by
    intro pins s σ H xs us Q I rv ⟨v, m, S, d, e, R, rd, h⟩
    subst e
    exact blt_isi t (.ty n) (.type n) hn (.ty n) ⟨n, rfl⟩ I rv R rd h
  have pz := pe_tyN ok (pos := p') hz hv
  have sz : starred (.Name z p') = false := rfl
  refine PE.mono (pe_callB r h1 h2 boot_isinstance (pa_cons hy (pa_cons pz pa_nil (star_not sz)) (star_not sy)) h3 h4 (star_not sy) (star_any fun w hw => ?_)) fun σ H Q q => ?_
  · rcases List.mem_cons.mp hw with rfl | hw
    · exact sz
    · cases hw
  · obtain ⟨m, ρ, S, R, re, h⟩ := q
    refine le_step hF e R re h fun d S1 m1 H1 v q le R1 rd re1 => ?_
    have q2 : bt (.isi t) [d] S1 (up X.K cl m H Q) := q
    exact ⟨v, m1, S1, d, rfl, R1, rd, bt_mono (fun _ _ => up_le le) q2⟩
/-- isinstance(y, (tuple, list)) -/
theorem pe_isi2 (hF : SemMono F) (ok : XOk c cl F X) {x : Str} {p p' p2 p3 pos : Pos} {k : Nat} {y : Expr} {e : E} (hx : c.bltn x "isinstance" = true) (hy : PE X y (lE X.K cl F e)) (sy : starred y = false) {z z2 : Str} (hz : c.bltn z "tuple" = true) (hz2 : c.bltn z2 "list" = true) :
    PE X (.Call (.Name x p) [y, .Tuple [.Name z p', .Name z2 p2] k p3] [] pos) (lE X.K cl F (.blt (.isi .tl) (.cons e .nil))) := by
  obtain ⟨ex, h1, h2, h3, h4⟩ := bltn_of ok hx
  subst ex
  have r : CallR X (.builtin "isinstance") (fun vs H Q => ∃ v tp m S d, vs = [v, .ref tp] ∧ H tp = some (.tup [.ty "tuple", .ty "list"]) ∧ RS X.K cl m H S ∧ RD X.K m H d v ∧ bIsi .tl [d] S (up X.K cl m H Q)) := by
    intro pins s σ H xs us Q I rv ⟨v, tp, m, S, d, e, ht, R, rd, h⟩
    subst e
    unfold bIsi at h
    dsimp only at h
    split at h
    · rename_i b e
      obtain ⟨n, e1, e2⟩ := isTy_any e
      exact call_isiT pins s σ H _ us Q I rv ⟨v, tp, [.ty "tuple", .ty "list"], .type n, [.type "tuple", .type "list"], b, rfl, ht, .cons (.ty _) (.cons (.ty _) .nil), rd.ty R e1, kitAny_of e2, up_here h R (.bl _)⟩
    · exact h.elim
  have pz := pe_tyN ok (pos := p') hz boot_tupleT
  have pz2 := pe_tyN ok (pos := p2) hz2 boot_listT
  have s1 : starred (.Name z p') = false := rfl
  have s2 : starred (.Name z2 p2) = false := rfl
  have pt : PE X (.Tuple [.Name z p', .Name z2 p2] k p3) _ := pe_tup (pa_cons pz (pa_cons pz2 pa_nil (star_not s2)) (star_not s1))
  have sz : starred (.Tuple [.Name z p', .Name z2 p2] k p3) = false := rfl
  refine PE.mono (pe_callB r h1 h2 boot_isinstance (pa_cons hy (pa_cons pt pa_nil (star_not sz)) (star_not sy)) h3 h4 (star_not sy) (star_any fun w hw => ?_)) fun σ H Q q => ?_
  · rcases List.mem_cons.mp hw with rfl | hw
    · exact sz
    · cases hw
  · obtain ⟨m, ρ, S, R, re, h⟩ := q
    refine le_step hF e R re h fun d S1 m1 H1 v q le R1 rd re1 => ?_
    refine ⟨by show 2 ≤ sizeLine; decide, fun tp np => ?_⟩
    have q2 : bt (.isi .tl) [d] S1 (up X.K cl m H Q) := q
    exact ⟨v, tp, m1, S1, d, rfl, upd_same, R1.new np, rd.mono (le_new np), bt_mono (fun _ _ => up_le (le.trans (le_new np))) q2⟩
/-- a subscript of a list or a tuple -/
def rIxD (K : Fg) (cl : Cl) : R2 := fun x y H Q => ∃ m S dx dy, RS K cl m H S ∧ RD K m H dx x ∧ RD K m H dy y ∧ ixD dx dy S (up K cl m H Q)
theorem RDs.atI {K : Fg} {m : List Addr} {H : Hp} {ds : List D} {vs : List V} {i : Int} {d : D} (r : RDs K m H ds vs) (e : L2.atI ds i = some d) : ∃ v, L2.atI vs i = some v ∧ RD K m H d v := by
  unfold L2.atI at e ⊢
  rw [r.length] at e
  cases q : ixN vs.length i with
  | none => rw [q] at e; cases e
  | some j =>
    rw [q] at e
    exact r.get e
theorem ix_dict (hu : X.A.units + 1 < cLine) : IxR X (fun x y H Q => ∃ a v, x = .ref a ∧ DGet H a y (some v) ∧ Q v H) := by
  intro value slice pins s σ H x y v u Q I rx ry ⟨a, w, ex, g, q⟩ hs
  subst ex
  cases rx
  have hT := dict_typeIs I g
  unfold subscriptTail
  refine wpAny_bind ?_
  rw [getitemInPython_of_ne hT.not_modules]
  refine wpAny_bind (wpAny_specialOf hT PySem.F.slot_dict_getitem.lookup ?_)
  have fin : wpAny (model X.prog X.w) X.A (subscripted slice false (.ref a) u) (fun r s₃ => wpAny (model X.prog X.w) X.A (letTemporaryGo value (.ref a) r >>= fun _ => pure r) (EP X pins σ Q) X.xe s₃) X.xe s := by
    rw [hs]
    exact wpAny_operating (d_getItem hu I g ry fun w' s3 I3 rw' => wpAny_bind (wpAny_letTemporaryGo (wpAny_pure ⟨w, H, I3, rw', q⟩)))
  first
    | exact wpAny_pure (wpAny_bind fin)
    | exact wpAny_bind (wpAny_pure (wpAny_bind fin))
    | exact wpAny_bind fin
theorem ix_snd (hu : X.A.units + 150 < cLine) : IxR X (rIxD X.K cl) := by
  intro value slice pins s σ H x y v u Q I rx ry ⟨m, S, dx, dy, R, r1, r2, h⟩ hs
  unfold ixD at h
  split at h
  · rename_i l e
    split at h
    · cases r2
      split at h
      · rename_i w ew
        obtain ⟨a, vs, rfl, hq, q⟩ := r1.seq R e
        obtain ⟨z, ez, rz⟩ := q.atI ew
        rcases hq with hq | hq
        · exact ix_list value slice pins s σ H _ _ v u Q I rx ry ⟨a, vs, _, z, rfl, rfl, hq, ez, up_here h R rz⟩ hs
        · exact ix_tup value slice pins s σ H _ _ v u Q I rx ry ⟨a, vs, _, z, rfl, rfl, hq, ez, up_here h R rz⟩ hs
      · exact h.elim
    · exact h.elim
  · split at h
    · rename_i kvs k e1 e2
      split at h
      · rename_i w ew
        obtain ⟨n, a, l, rfl, hm, rfl, h1, q⟩ := r1.dctr R e1
        have ey := key_of_rd r2 e2
        subst ey
        rcases q.valV k with ⟨d, w', g1, g2, g3⟩ | ⟨g1, g2⟩
        · rw [g1] at ew
          cases ew
          refine ix_dict (by omega) value slice pins s σ H _ _ v u Q I rx ry ⟨a, w', rfl, ?_, up_here h R g3⟩ hs
          rw [← g2]
          exact dget_rd h1
        · rw [g1] at ew; cases ew
      · exact h.elim
    · exact h.elim
theorem plain_ix {b : Expr} (h : isSlice b = false) : PlainIx b := fun o i => by
  cases b <;> first | rfl | cases h
/-- a slice of a list or a tuple -/
def rSlD (K : Fg) (cl : Cl) : V → Option Int → Option Int → Hp → VK → Prop := fun x lo hi H Q => ∃ m S dx, RS K cl m H S ∧ RD K m H dx x ∧ slD dx lo hi S (up K cl m H Q)
theorem RDs.cut {K : Fg} {m : List Addr} {H : Hp} {ds : List D} {vs : List V} (r : RDs K m H ds vs) (lo hi : Option Int) : RDs K m H (cut ds lo hi) (cutV vs lo hi) := by
  unfold Mn.cut cutV
  rw [r.length]
  exact (r.drop _).take _
theorem sl_snd : SlR X (rSlD X.K cl) := by
  intro pins s σ H x v vl vu lo hi sl Q I rx hs pl pu ⟨m, S, dx, R, r1, h⟩
  unfold slD at h
  split at h
  · rename_i ds
    cases r1 with
    | @tup a vs _ h1 q1 =>
      refine sl_tupA pins s σ H _ v vl vu lo hi sl Q I rx hs pl pu ⟨a, vs, rfl, h1, fun hw => ?_, fun _ p np => ?_⟩
      · have e : Mn.cut ds lo hi = ds := by
          unfold Mn.cut
          rw [q1.length, hw.1, hw.2, List.drop_zero, Nat.sub_zero, ← q1.length, List.take_length]
        rw [e] at h
        exact up_here h R (.tup h1 q1)
      · exact h m _ _ (le_new np) (R.new np) (.tup (SqT.of upd_same) ((q1.cut lo hi).mono (le_new np)))
  · split at h
    · rename_i l e
      obtain ⟨a, vs, rfl, hq, q⟩ := r1.lq R e
      exact sl_list pins s σ H _ v vl vu lo hi sl Q I rx hs pl pu ⟨a, vs, rfl, hq, fun p np => h _ _ _ (le_push np) (R.pushL np (q.cut lo hi)) (.ref (R.last p))⟩
    · exact h.elim
/-- a part of a slice -/
def lO (K : Fg) (cl : Cl) (F : Sem) (e : E) : TO := fun σ H Q => ∃ m ρ S, RS K cl m H S ∧ RE K m H ρ σ ∧ wpE F e ρ S (fun d S' => ∃ o, optP e d = some o ∧ ∀ m' H', Le m H m' H' → RS K cl m' H' S' → Q o H') noX
theorem lo_step (hF : SemMono F) (e : E) {K : Fg} {m : List Addr} {H : Hp} {S : Store} {σ : L2.St} {ρ : Env} {P : DK} {Q : Option Int → Hp → Prop} (R : RS K cl m H S) (re : RE K m H ρ σ) (h : wpE F e ρ S P noX)
    (k : ∀ d S', P d S' → ∃ o, optP e d = some o ∧ ∀ m' H', Le m H m' H' → RS K cl m' H' S' → RE K m' H' ρ σ → Q o H') : lO K cl F e σ H Q :=
  ⟨m, ρ, S, R, re, wpE_mono hF e (fun d S' q => let ⟨o, eo, z⟩ := k d S' q; ⟨o, eo, fun m' H' le R' => z m' H' le R' (re.mono le)⟩) (fun _ _ z => z) h⟩
theorem po_snd {e : E} {x : Expr} (h : PE X x (lE X.K cl F e)) (hF : SemMono F) (hn : ∀ d o, optP e d = some o → ∃ i, d = .int i ∧ o = some i) : PO X (some x) (lO X.K cl F e) := by
  refine PO.mono (po_some h) fun σ H Q q => ?_
  obtain ⟨m, ρ, S, R, re, h⟩ := q
  refine le_step hF e R re h fun d S1 m1 H1 v q le R1 rd re1 => ?_
  obtain ⟨o, eo, k⟩ := q
  obtain ⟨i, rfl, rfl⟩ := hn d o eo
  cases rd
  exact ⟨i, rfl, k m1 H1 le R1⟩
theorem po_no : PO X none (lO X.K cl F .no) := by
  refine PO.mono po_none fun σ H Q q => ?_
  obtain ⟨m, ρ, S, R, re, h⟩ := q
  obtain ⟨o, eo, k⟩ := (show ∃ o, optP .no .non = some o ∧ ∀ m' H', Le m H m' H' → RS X.K cl m' H' S → Q o H' from h)
  cases eo
  exact k m H (Le.refl m H) R
theorem optP_int {e : E} (he : ∀ d, optP e d = match d with | .int i => some (some i) | _ => none) (d : D) (o : Option Int) (h : optP e d = some o) : ∃ i, d = .int i ∧ o = some i := by
  rw [he] at h
  split at h
  · cases h; exact ⟨_, rfl, rfl⟩
  · cases h
theorem optP_no {e : E} (hn : e ≠ .no) (d : D) : optP e d = match d with | .int i => some (some i) | _ => none := by
  cases e <;> first | exact absurd rfl hn | (cases d <;> rfl)
theorem no_of {e : E} {x : Expr} (h : chkE e c x = true) : e ≠ .no := by
  intro z
  subst z
  cases h
def plainX : Expr → Bool
  | .UnaryOp .Not _ _ => false | .BoolOp _ _ _ => false | .IfExp _ _ _ _ => false | .Compare _ _ _ _ => false | _ => true
theorem isT {x : Expr} (h : plainX x = true) (env : PySem.Env) : ∀ whole, isTrue x env whole = (do let v ← whole; standAt x.pos; holding [v] (truthy v)) := by
  intro whole
  cases x <;> first | rfl | (cases h; done) | (rename_i op _ _; cases op <;> first | rfl | cases h)
theorem not_t {b : Bool} (h : (!b) = true) : b = false := by simpa using h
/-- both readings of an expression: its value, and as a test -/
structure Snd (c : Cxt) (cl : Cl) (F : Sem) (X : Cx) (e : E) (x : Expr) : Prop where
  v : PE X x (lE X.K cl F e)
  t : tOk e = true → PT X x (tB (lE X.K cl F e))
theorem Snd.plain {e : E} {x : Expr} (h : PE X x (lE X.K cl F e)) (hp : plainX x = true) : Snd c cl F X e x :=
  ⟨h, fun _ => pt_val h (isT hp X.env)⟩
theorem bl_of {K : Fg} {m : List Addr} {H : Hp} {b : Bool} {v : V} (r : RD K m H (.bl b) v) : v = .bl b := by cases r; rfl
theorem int_of {K : Fg} {m : List Addr} {H : Hp} {b : Int} {v : V} (r : RD K m H (.int b) v) : v = .int b := by cases r; rfl
theorem and_v (hF : SemMono F) {a b : E} {σ : L2.St} {H : Hp} {Q : VK} (h : lE X.K cl F (.and a b) σ H Q) : tAndV (lE X.K cl F a) (lE X.K cl F b) σ H Q := by
  obtain ⟨m, ρ, S, R, re, h⟩ := h
  refine le_step hF a R re h fun d S1 m1 H1 v q le R1 rd re1 => ?_
  split at q
  · exact ⟨true, bl_of rd, le_step hF b R1 re1 q fun d2 S2 m2 H2 v2 q2 le2 R2 rd2 re2 => q2 m2 H2 v2 (le.trans le2) R2 rd2⟩
  · exact ⟨false, bl_of rd, up_here (up_le le q) R1 (.bl false)⟩
  · exact q.elim
theorem or_v (hF : SemMono F) {a b : E} {σ : L2.St} {H : Hp} {Q : VK} (h : lE X.K cl F (.or a b) σ H Q) : tOrV (lE X.K cl F a) (lE X.K cl F b) σ H Q := by
  obtain ⟨m, ρ, S, R, re, h⟩ := h
  refine le_step hF a R re h fun d S1 m1 H1 v q le R1 rd re1 => ?_
  split at q
  · exact ⟨true, bl_of rd, up_here (up_le le q) R1 (.bl true)⟩
  · exact ⟨false, bl_of rd, le_step hF b R1 re1 q fun d2 S2 m2 H2 v2 q2 le2 R2 rd2 re2 => q2 m2 H2 v2 (le.trans le2) R2 rd2⟩
  · exact q.elim
theorem and_t (hF : SemMono F) {a b : E} {σ : L2.St} {H : Hp} {Q : Bool → Hp → Prop} (h : tB (lE X.K cl F (.and a b)) σ H Q) : tAnd (tB (lE X.K cl F a)) (tB (lE X.K cl F b)) σ H Q := by
  obtain ⟨m, ρ, S, R, re, h⟩ := h
  refine le_step hF a R re h fun d S1 m1 H1 v q le R1 rd re1 => ?_
  split at q
  · exact ⟨true, bl_of rd, le_step hF b R1 re1 q fun d2 S2 m2 H2 v2 q2 le2 R2 rd2 re2 => q2 m2 H2 v2 (le.trans le2) R2 rd2⟩
  · obtain ⟨k, e, z⟩ := up_here (up_le le q) R1 (.bl false)
    cases e
    exact ⟨false, bl_of rd, z⟩
  · exact q.elim
theorem or_t (hF : SemMono F) {a b : E} {σ : L2.St} {H : Hp} {Q : Bool → Hp → Prop} (h : tB (lE X.K cl F (.or a b)) σ H Q) : tOr (tB (lE X.K cl F a)) (tB (lE X.K cl F b)) σ H Q := by
  obtain ⟨m, ρ, S, R, re, h⟩ := h
  refine le_step hF a R re h fun d S1 m1 H1 v q le R1 rd re1 => ?_
  split at q
  · obtain ⟨k, e, z⟩ := up_here (up_le le q) R1 (.bl true)
    cases e
    exact ⟨true, bl_of rd, z⟩
  · exact ⟨false, bl_of rd, le_step hF b R1 re1 q fun d2 S2 m2 H2 v2 q2 le2 R2 rd2 re2 => q2 m2 H2 v2 (le.trans le2) R2 rd2⟩
  · exact q.elim
theorem cmp_v (hF : SemMono F) {op : CmpOp} {a b : E} {σ : L2.St} {H : Hp} {Q : VK} (h : lE X.K cl F (.cmp op a b) σ H Q) : tOp (rC X.K cl op) (lE X.K cl F a) (lE X.K cl F b) σ H Q := by
  obtain ⟨m, ρ, S, R, re, h⟩ := h
  refine le_step hF a R re h fun d S1 m1 H1 v q le R1 rd re1 => le_step hF b R1 re1 q fun d2 S2 m2 H2 v2 q2 le2 R2 rd2 re2 => ?_
  exact ⟨m2, S2, d, d2, R2, rd.mono le2, rd2, cmpB_mono (fun k z => up_here (up_le (le.trans le2) z) R2 (.bl k)) q2⟩
theorem chn_v (hF : SemMono F) {op op2 : CmpOp} {a b d : E} {σ : L2.St} {H : Hp} {Q : VK} (h : lE X.K cl F (.chn op op2 a b d) σ H Q) : tChain (rC X.K cl op) (rC X.K cl op2) (lE X.K cl F a) (lE X.K cl F b) (lE X.K cl F d) σ H Q := by
  obtain ⟨m, ρ, S, R, re, h⟩ := h
  refine le_step hF a R re h fun d1 S1 m1 H1 v q le R1 rd re1 => le_step hF b R1 re1 q fun d2 S2 m2 H2 v2 q2 le2 R2 rd2 re2 => ?_
  refine ⟨m2, S2, d1, d2, R2, rd.mono le2, rd2, cmpB_mono (fun k z => ?_) q2⟩
  refine ⟨k, rfl, ?_⟩
  cases k with
  | true =>
    refine (if_pos rfl).mpr ?_
    refine le_step hF d R2 re2 z fun d3 S3 m3 H3 v3 q3 le3 R3 rd3 re3 => ?_
    exact ⟨m3, S3, d2, d3, R3, rd2.mono le3, rd3, cmpB_mono (fun k z => up_here (up_le ((le.trans le2).trans le3) z) R3 (.bl k)) q3⟩
  | false =>
    refine (if_neg Bool.false_ne_true).mpr ?_
    exact up_here (up_le (le.trans le2) z) R2 (.bl false)
theorem pe_blt1 (hF : SemMono F) (ok : XOk c cl F X) {x : Str} {n : String} {p pos : Pos} {y : Expr} {ys : List Expr} {b : Bt} {es : Es} (hx : c.bltn x n = true) (hy : PA X (y :: ys) (lA X.K cl F es)) (st : ∀ w ∈ y :: ys, starred w = false) (hv : bootBuiltins (n : Str) = some (.builtin n))
    (r : CallR X (.builtin n) (rBt X.K cl b)) : PE X (.Call (.Name x p) (y :: ys) [] pos) (lE X.K cl F (.blt b es)) := by
  obtain ⟨ex, h1, h2, h3, h4⟩ := bltn_of ok hx
  subst ex
  refine PE.mono (pe_callB r h1 h2 hv hy h3 h4 (star_not (st y List.mem_cons_self)) (star_any fun w hw => st w (List.mem_cons_of_mem _ hw))) fun σ H Q q => ?_
  obtain ⟨m, ρ, S, R, re, q⟩ := q
  refine la_step hF es R re q fun ds S1 m1 H1 vs q le R1 rd re1 => ?_
  exact ⟨m1, S1, ds, R1, rd, bt_mono (fun _ _ => up_le le) q⟩
theorem pe_bltT (hF : SemMono F) (ok : XOk c cl F X) {x : Str} {n : String} {p pos : Pos} {y : Expr} {b : Bt} {es : Es} (hx : c.bltn x n = true) (hy : PA X [y] (lA X.K cl F es)) (st : starred y = false) (hv : bootBuiltins (n : Str) = some (.type n))
    (r : CallR X (.type n) (rBt X.K cl b)) : PE X (.Call (.Name x p) [y] [] pos) (lE X.K cl F (.blt b es)) := by
  obtain ⟨ex, h1, h2, h3, h4⟩ := bltn_of ok hx
  subst ex
  refine ⟨fun pins s σ H Q I h => ?_⟩
  obtain ⟨m, ρ, S, R, re, q⟩ := h
  refine Call_ (ld_blt I h1 h2 hv (PyProof.Rows.callWith_type1 (thn (hy.run pos pins s σ H _ I (la_step hF es R re q fun ds S1 m1 H1 vs q le R1 rd re1 => (⟨m1, S1, ds, R1, rd, bt_mono (fun _ _ => up_le le) q⟩ : rBt X.K cl b vs H1 Q))) fun us s1 ⟨vs, H1, I1, r1, q1⟩ => ?_) (star_not st) rfl) h3 h4)
  exact r pins s1 σ H1 vs us Q I1 r1 q1
theorem boot_dictT : bootBuiltins "dict" = some (.type "dict") := by decide +kernel
theorem boot_sumB : bootBuiltins "sum" = some (.builtin "sum") := by decide +kernel
theorem boot_anyB : bootBuiltins "any" = some (.builtin "any") := by decide +kernel
theorem boot_allB : bootBuiltins "all" = some (.builtin "all") := by decide +kernel
theorem boot_sortedB : bootBuiltins "sorted" = some (.builtin "sorted") := by decide +kernel
/-- max(y, default=z) -/
theorem pe_maxd (hF : SemMono F) (ok : XOk c cl F X) {x : Str} {p pos kp : Pos} {y z : Expr} {e e2 : E} (hx : c.bltn x "max" = true) (hy : PE X y (lE X.K cl F e)) (hz : PE X z (lE X.K cl F e2)) (sy : starred y = false) :
    PE X (.Call (.Name x p) [y] [⟨some "default", z, kp⟩] pos) (lE X.K cl F (.blt .maxd (.cons e (.cons e2 .nil)))) := by
  obtain ⟨ex, h1, h2, h3, h4⟩ := bltn_of ok hx
  subst ex
  refine PE.mono (pe_callBK (blt_maxd (cl := cl) ok.calm ok.units) h1 h2 boot_max (pa_cons hy pa_nil (star_not sy)) (pk_cons hz pk_nil) h3 h4 (by rw [star_not sy]; rfl) (star_any fun w hw => by rw [List.mem_singleton.mp hw]; exact sy)) fun σ H Q q => ?_
  · obtain ⟨m, ρ, S, R, re, q⟩ := q
    replace q : wpE F e ρ S (fun x S1 => wpE F e2 ρ S1 (fun y S2 => bt .maxd [x, y] S2 (up X.K cl m H Q)) noX) noX := q
    refine le_step hF e R re q fun d S1 m1 H1 v q le R1 rd re1 => le_step hF e2 R1 re1 q fun d2 S2 m2 H2 v2 q2 le2 R2 rd2 re2 => ?_
    exact ⟨m2, S2, d, d2, R2, .cons (rd.mono le2) .nil, .cons rd2 .nil, bt_mono (b := .maxd) (fun _ _ => up_le (le.trans le2)) q2⟩
end
end Mn

/-! Targets, what is walked, comprehensions. -/
namespace Mn
open PySem PySem.Spec PyProof.Rows L2
section
variable {c : Cxt} {cl : Cl} {F : Sem} {X : Cx}
/-! ### targets -/
/-- the names off vs stay -/
def Off (vs : List Nat) (σ σ' : L2.St) : Prop := σ'.length = σ.length ∧ ∀ j, j ∉ vs → σ'[j]? = σ[j]?
theorem Off.refl (vs : List Nat) (σ : L2.St) : Off vs σ σ := ⟨rfl, fun _ _ => rfl⟩
theorem Off.cat {vs us : List Nat} {σ σ1 σ2 : L2.St} (a : Off vs σ σ1) (b : Off us σ1 σ2) : Off (vs ++ us) σ σ2 :=
  ⟨b.1.trans a.1, fun j h => by rw [List.mem_append, not_or] at h; rw [b.2 j h.2, a.2 j h.1]⟩
theorem Off.set (i : Nat) (σ : L2.St) (x : Option V) : Off [i] σ (σ.set i x) := ⟨List.length_set, fun j h => by rw [List.getElem?_set_ne (fun z => h (by simp [z]))]⟩
theorem wipe_in {σ : L2.St} {i : Nat} : ∀ {vs : List Nat}, i ∈ vs → (wipe σ vs)[i]? = if i < σ.length then some none else none
  | [], h => by cases h
  | v :: vs, h => by
    unfold wipe
    by_cases e : v = i
    · subst e
      by_cases hl : v < σ.length
      · rw [List.getElem?_set_self (by rw [wipe_length]; exact hl), if_pos hl]
      · rw [List.getElem?_eq_none (by rw [List.length_set, wipe_length]; omega), if_neg hl]
    · rw [List.getElem?_set_ne e]
      exact wipe_in ((List.mem_cons.mp h).resolve_left (Ne.symm e))
theorem Off.wipe {vs us : List Nat} {σ σ2 : L2.St} (h : Off us (wipe σ vs) σ2) (hs : ∀ i ∈ us, i ∈ vs) : L2.wipe σ2 vs = L2.wipe σ vs := by
  have hl : σ2.length = σ.length := by rw [h.1, wipe_length]
  refine List.ext_getElem? fun j => ?_
  by_cases hj : j ∈ vs
  · rw [wipe_in hj, wipe_in hj, hl]
  · rw [wipe_out hj, h.2 j fun z => hj (hs j z), wipe_out hj]
theorem tg_of (ok : XOk c cl F X) {x : Str} (h : (!c.blk || (match c.sc.names.lookup x with | some .local => true | _ => false)) = true) : X.fn x = true ∨ X.env.scope.names.lookup x = some .local := by
  rcases Bool.or_eq_true_iff.mp h with h | h
  · exact .inl (ok.tg (by simpa using h) x)
  · right
    rw [ok.sc]
    split at h
    · assumption
    · cases h
def lG (K : Fg) (cl : Cl) (t : Tg) : TG := fun v σ H Q => ∃ m ρ S d ρ', RS K cl m H S ∧ RE K m H ρ σ ∧ RD K m H d v ∧ t.bind d ρ = some ρ' ∧ ∀ m' H' σ', Le m H m' H' → RS K cl m' H' S → RE K m' H' ρ' σ' → Off t.slots σ σ' → Q σ' H'
theorem PG.mono {e : Expr} {t t' : TG} (h : PG X e t) (k : ∀ v σ H Q, t' v σ H Q → t v σ H Q) : PG X e t' := ⟨fun pins s σ H v u Q I r q => h.run pins s σ H v u Q I r (k v σ H Q q)⟩
theorem bind_some {a : Option Env} {f : Env → Option Env} {r : Env} (h : a.bind f = some r) : ∃ b, a = some b ∧ f b = some r := by
  cases a with
  | none => cases h
  | some b => exact ⟨b, rfl, h⟩
theorem lG_go {K : Fg} {t : Tg} {m : List Addr} {ρ : Env} {S : Store} {d : D} {ρ' : Env} {v : V} {σ : L2.St} {H : Hp} {Q : L2.St → Hp → Prop} (R : RS K cl m H S) (re : RE K m H ρ σ) (rd : RD K m H d v) (e : t.bind d ρ = some ρ')
    (k : ∀ m' H' σ', Le m H m' H' → RS K cl m' H' S → RE K m' H' ρ' σ' → Off t.slots σ σ' → Q σ' H') : lG K cl t v σ H Q := ⟨m, ρ, S, d, ρ', R, re, rd, e, k⟩
theorem each_cons {x : Expr} {xs : List Expr} {env : PySem.Env} (h : starred x = false) : (assignEach (x :: xs) env).map (·.2) = assign x env :: (assignEach xs env).map (·.2) := by
  cases x <;> first | rfl | cases h
theorem each_len {env : PySem.Env} : ∀ {xs : List Expr}, (assignEach xs env).length = xs.length
  | [] => rfl
  | x :: xs => by
    have ih := each_len (env := env) (xs := xs)
    cases x <;> (show (assignEach xs env).length + 1 = xs.length + 1; rw [ih])
theorem each_star {env : PySem.Env} : ∀ {xs : List Expr}, (∀ x ∈ xs, starred x = false) → (assignEach xs env).findIdx? (·.1) = none
  | [], _ => rfl
  | x :: xs, h => by
    have ih := each_star (env := env) (xs := xs) fun y hy => h y (List.mem_cons_of_mem _ hy)
    have hx := h x List.mem_cons_self
    have e : ∃ f, assignEach (x :: xs) env = (false, f) :: assignEach xs env := by cases x <;> first | exact ⟨_, rfl⟩ | cases hx
    obtain ⟨f, e⟩ := e
    rw [e, List.findIdx?_cons]
    simp [ih]
theorem tg_star {t : Tg} {x : Expr} (h : chkTg c t x = true) : starred x = false := by
  cases t <;> (unfold chkTg at h; split at h <;> first | rfl | cases h)
theorem tgs_star : ∀ {ts : Tgs} {xs : List Expr}, chkTgs c ts xs = true → ∀ x ∈ xs, starred x = false
  | .nil, xs, h => by
    cases xs with
    | nil => intro x hx; cases hx
    | cons _ _ => cases h
  | .cons t ts, xs, h => by
    cases xs with
    | nil => cases h
    | cons y ys =>
      obtain ⟨h1, h2⟩ := and2 (show (chkTg c t y && chkTgs c ts ys) = true from h)
      intro x hx
      rcases List.mem_cons.mp hx with rfl | hx
      · exact tg_star h1
      · exact tgs_star h2 x hx
def lGs (K : Fg) (cl : Cl) (ts : Tgs) : TGs := fun vs σ H Q => ∃ m ρ S ds ρ', RS K cl m H S ∧ RE K m H ρ σ ∧ RDs K m H ds vs ∧ ts.bind ds ρ = some ρ' ∧ ∀ m' H' σ', Le m H m' H' → RS K cl m' H' S → RE K m' H' ρ' σ' → Off ts.slots σ σ' → Q σ' H'
theorem PGs.mono {es : List Expr} {t t' : TGs} (h : PGs X es t) (k : ∀ v σ H Q, t' v σ H Q → t v σ H Q) : PGs X es t' := ⟨fun pins s σ H v u Q I r q => h.run pins s σ H v u Q I r (k v σ H Q q)⟩
theorem tgs_len : ∀ {ts : Tgs} {xs : List Expr} {ds : List D} {ρ ρ' : Env}, chkTgs c ts xs = true → ts.bind ds ρ = some ρ' → ds.length = xs.length
  | .nil, xs, ds, _, _, h, e => by
    cases xs with
    | cons _ _ => cases h
    | nil =>
      cases ds with
      | nil => rfl
      | cons _ _ => cases e
  | .cons t ts, xs, ds, ρ, ρ', h, e => by
    cases xs with
    | nil => cases h
    | cons y ys =>
      cases ds with
      | nil => cases e
      | cons d ds =>
        obtain ⟨h1, h2⟩ := and2 (show (chkTg c t y && chkTgs c ts ys) = true from h)
        unfold Tgs.bind at e
        dsimp only at e
        split at e
        · rw [List.length_cons, List.length_cons, tgs_len h2 e]
        · cases e
mutual
theorem sndTg (ok : XOk c cl F X) : ∀ (t : Tg) (x : Expr), chkTg c t x = true → PG X x (lG X.K cl t)
  | .nm i, x, h => by
    unfold chkTg at h
    split at h
    · obtain ⟨h1, h2, h3⟩ := and3 h
      have tg := tg_of ok h3
      refine PG.mono (pg_name (i := i) ok.nd (by rw [ok.N]; exact of_decide_eq_true h1) (by rw [ok.sc]; exact loc_of h2) tg) fun v σ H Q q => ?_
      obtain ⟨m, ρ, S, d, ρ', R, re, rd, e, k⟩ := q
      cases e
      exact k m H _ (Le.refl m H) R (re.set rd i) (Off.set i σ _)
    · cases h
  | .tp ts, x, h => by
    unfold chkTg at h
    split at h
    · rename_i xs kk pos
      have A := sndTgs ok ts _ h
      refine PG.mono (pg_tup (n := xs.length) ok.calm A each_len (each_star (tgs_star h))) fun v σ H Q q => ?_
      obtain ⟨m, ρ, S, d, ρ', R, re, rd, e, k⟩ := q
      unfold Tg.bind at e
      split at e
      · cases rd with
        | tup ht qt => exact ⟨_, _, rfl, ht, by rw [← qt.length]; exact tgs_len h e, m, ρ, S, _, ρ', R, re, qt, e, k⟩
      · cases e
    · cases h
theorem sndTgs (ok : XOk c cl F X) : ∀ (ts : Tgs) (xs : List Expr), chkTgs c ts xs = true → PGs X xs (lGs X.K cl ts)
  | .nil, xs, h => by
    cases xs with
    | cons _ _ => cases h
    | nil =>
      refine PGs.mono pgs_nil fun vs σ H Q q => ?_
      obtain ⟨m, ρ, S, ds, ρ', R, re, rd, e, k⟩ := q
      cases rd with
      | nil => cases e; exact ⟨rfl, k m H σ (Le.refl m H) R re (Off.refl _ _)⟩
      | cons _ _ => cases e
  | .cons t ts, xs, h => by
    cases xs with
    | nil => cases h
    | cons x xs =>
      obtain ⟨h1, h2⟩ := and2 (show (chkTg c t x && chkTgs c ts xs) = true from h)
      have A := sndTg ok t _ h1
      have B := sndTgs ok ts _ h2
      refine PGs.mono (pgs_cons A B (each_cons (tg_star h1))) fun vs σ H Q q => ?_
      obtain ⟨m, ρ, S, ds, ρ', R, re, rd, e, k⟩ := q
      cases rd with
      | nil => cases e
      | cons r1 r2 =>
        unfold Tgs.bind at e
        dsimp only at e
        split at e
        · rename_i ρ1 e1
          exact ⟨_, _, rfl, lG_go R re r1 e1 fun m1 H1 σ1 le1 R1 re1 of1 => ⟨m1, ρ1, S, _, ρ', R1, re1, r2.mono le1, e, fun m2 H2 σ2 le2 R2 re2 of2 => k m2 H2 σ2 (le1.trans le2) R2 re2 (of1.cat of2)⟩⟩
        · cases e
end
/-! ### what a for walks -/
/-- an expression's value is walked: a list or a tuple -/
def iSeq (K : Fg) (te : TE) : TI := fun σ H R => te σ H fun x H1 => ∃ a, x = .ref a ∧ (((∃ xs, SqL K H1 a xs) ∧ R (Itl K a) H1) ∨ ((∃ xs, SqT K H1 a xs) ∧ R (Itt K a) H1))
theorem pi_seq {tg l : Expr} {te : TE} (hl : PE X l te) : PI X tg l (iSeq X.K te) := by
  refine ⟨fun pins s σ H R I h => thn (hl.run pins s σ H _ I h) fun v s1 ⟨x, H1, I1, r1, a, ex, q1⟩ => ?_⟩
  subst ex
  cases r1
  have new : ∀ b ∈ [s1.heap.objs.size], FpOk X pins H1 b := fun b hb => by
    rw [List.mem_singleton.mp hb]
    exact I1.fpOk (Nat.le_refl _) (I1.hok.fresh (Nat.le_refl _))
  rcases q1 with ⟨⟨xs, hq⟩, q⟩ | ⟨⟨xs, hq⟩, q⟩
  · obtain ⟨its, _, pl, _⟩ := I1.list hq
    exact wpAny_pyIter_list pl.isList ⟨_, _, _, _, H1, rfl, I1.kept (t' := s1.toks) fun _ _ => Heap.get?_push_of_some _,
      turn_list a _, ⟨_, Heap.get?_push_size _ rfl, rfl, rfl⟩, new, q⟩
  · obtain ⟨its, _, pt, _⟩ := I1.tuple hq
    exact wpAny_pyIter_tuple (items := its.toArray) pt ⟨_, _, _, _, H1, rfl, I1.kept (t' := s1.toks) fun _ _ => Heap.get?_push_of_some _,
      turn_tuple a _, ⟨_, Heap.get?_push_size _ rfl, rfl, rfl⟩, new, q⟩
/-- while G holds of the store the walk J yields the items l -/
def Walks (K : Fg) (cl : Cl) (m1 : List Addr) (H1 : Hp) (J : L2.It) (l : List D) (G : Store → Prop) : Prop :=
  (∀ m H S i, Le m1 H1 m H → RS K cl m H S → G S → l.length ≤ i → J.stop i H) ∧
  (∀ m H S i d, Le m1 H1 m H → RS K cl m H S → G S → l[i]? = some d → J.go i H ∧ ∀ x H', J.yld i H x H' → ∃ m', Le m H m' H' ∧ RS K cl m' H' S ∧ RD K m' H' d x)
theorem walks_seq {K : Fg} {m1 : List Addr} {H1 : Hp} {S1 : Store} {a : Addr} {x : D} {l : List D} {G : Store → Prop} (R1 : RS K cl m1 H1 S1) (rd : RD K m1 H1 x (.ref a))
    (h : (x = .tup l ∧ G = fun _ => True) ∨ (x = .fl l ∧ G = fun _ => True) ∨ ∃ n, x = .ref n ∧ lst? S1 n = some l ∧ G = fun S => lst? S n = some l) :
    ((∃ xs, SqL K H1 a xs) ∧ Walks K cl m1 H1 (Itl K a) l G) ∨ ((∃ xs, SqT K H1 a xs) ∧ Walks K cl m1 H1 (Itt K a) l G) := by
  rcases h with ⟨rfl, rfl⟩ | ⟨rfl, rfl⟩ | ⟨n, rfl, e, rfl⟩
  · cases rd with
    | @tup _ vs _ ht q =>
      refine .inr ⟨⟨_, ht⟩, fun m H S i le R _ hi => ⟨vs, le.sqT ht, by rw [← q.length]; exact hi⟩, fun m H S i d le R _ hd => ?_⟩
      obtain ⟨v, hv, rv⟩ := q.get hd
      refine ⟨⟨vs, v, le.sqT ht, hv⟩, fun y H' hy => ?_⟩
      obtain ⟨e1, e2⟩ := hy
      subst e1
      have e3 := e2 vs (le.sqT ht)
      rw [hv] at e3
      cases e3
      exact ⟨m, Le.refl m H', R, rv.mono le⟩
  · cases rd with
    | @fl _ vs _ ht q =>
      refine .inl ⟨⟨_, ht.sq⟩, fun m H S i le R _ hi => ⟨vs, (le.pers ht).sq, by rw [← q.length]; exact hi⟩, fun m H S i d le R _ hd => ?_⟩
      obtain ⟨v, hv, rv⟩ := q.get hd
      refine ⟨⟨vs, v, (le.pers ht).sq, hv⟩, fun y H' hy => ?_⟩
      obtain ⟨e1, e2⟩ := hy
      subst e1
      have e3 := e2 vs (le.pers ht).sq
      rw [hv] at e3
      cases e3
      exact ⟨m, Le.refl m H', R, rv.mono le⟩
  · cases rd with
    | ref hm =>
      obtain ⟨vs0, h0, _⟩ := R1.at_ n a _ hm (lst_some e)
      refine .inl ⟨⟨_, SqL.of h0⟩, fun m H S i le R g hi => ?_, fun m H S i d le R g hd => ?_⟩
      · obtain ⟨vs, h1, q⟩ := R.at_ n a _ (le.pre _ _ hm) (lst_some g)
        exact ⟨vs, SqL.of h1, by rw [← q.length]; exact hi⟩
      · obtain ⟨vs, h1, q⟩ := R.at_ n a _ (le.pre _ _ hm) (lst_some g)
        obtain ⟨v, hv, rv⟩ := q.get hd
        refine ⟨⟨vs, v, SqL.of h1, hv⟩, fun y H' hy => ?_⟩
        obtain ⟨e1, e2⟩ := hy
        subst e1
        have e3 := e2 vs (SqL.of h1)
        rw [hv] at e3
        cases e3
        exact ⟨m, Le.refl m H', R, rv⟩
/-! ### more walks -/
theorem rngL_get {a b : Int} {i : Nat} {d : D} (h : (rngL a b)[i]? = some d) : i < (b - a).toNat ∧ d = .int (a + i) := by
  unfold rngL at h
  rw [List.getElem?_map] at h
  cases e : (List.range (b - a).toNat)[i]? with
  | none => rw [e] at h; cases h
  | some k =>
    rw [e] at h
    have h1 := (List.getElem?_eq_some_iff.mp e).1
    have h2 := (List.getElem?_eq_some_iff.mp e).2
    rw [List.length_range] at h1
    rw [List.getElem_range] at h2
    subst h2
    cases h
    exact ⟨h1, rfl⟩
theorem walks_rng {K : Fg} {m1 : List Addr} {H1 : Hp} (a b : Int) : Walks K cl m1 H1 (Itr a (b - a).toNat) (rngL a b) (fun _ => True) := by
  refine ⟨fun m H S i le R _ hi => ?_, fun m H S i d le R _ hd => ?_⟩
  · unfold rngL at hi
    rw [List.length_map, List.length_range] at hi
    exact hi
  · obtain ⟨h1, rfl⟩ := rngL_get hd
    refine ⟨h1, fun x H' y => ?_⟩
    obtain ⟨e, ex⟩ := y
    subst e ex
    exact ⟨m, Le.refl m _, R, .int _⟩
theorem rngD_get {a b : Int} {i : Nat} {d : D} (h : (rngD a b)[i]? = some d) : i < (a - b).toNat ∧ d = .int (a - i) := by
  unfold rngD at h
  rw [List.getElem?_map] at h
  cases e : (List.range (a - b).toNat)[i]? with
  | none => rw [e] at h; cases h
  | some k =>
    rw [e] at h
    have h1 := (List.getElem?_eq_some_iff.mp e).1
    have h2 := (List.getElem?_eq_some_iff.mp e).2
    rw [List.length_range] at h1
    rw [List.getElem_range] at h2
    subst h2
    cases h
    exact ⟨h1, rfl⟩
theorem walks_rngd {K : Fg} {m1 : List Addr} {H1 : Hp} (a b : Int) : Walks K cl m1 H1 (Itc a (-1) (a - b).toNat) (rngD a b) (fun _ => True) := by
  refine ⟨fun m H S i le R _ hi => ?_, fun m H S i d le R _ hd => ?_⟩
  · unfold rngD at hi
    rw [List.length_map, List.length_range] at hi
    exact hi
  · obtain ⟨h1, rfl⟩ := rngD_get hd
    refine ⟨h1, fun x H' y => ?_⟩
    obtain ⟨e, ex⟩ := y
    subst e
    have e2 : a + (i : Int) * (-1) = a - i := by omega
    rw [e2] at ex
    subst ex
    exact ⟨m, Le.refl m _, R, .int _⟩
theorem rng2L_get {a b : Int} {i : Nat} {d : D} (h : (rng2L a b)[i]? = some d) : i < ((b - a + 1) / 2).toNat ∧ d = .int (a + 2 * i) := by
  unfold rng2L at h
  rw [List.getElem?_map] at h
  cases e : (List.range ((b - a + 1) / 2).toNat)[i]? with
  | none => rw [e] at h; cases h
  | some k =>
    rw [e] at h
    have h1 := (List.getElem?_eq_some_iff.mp e).1
    have h2 := (List.getElem?_eq_some_iff.mp e).2
    rw [List.length_range] at h1
    rw [List.getElem_range] at h2
    subst h2
    cases h
    exact ⟨h1, rfl⟩
theorem walks_rng2 {K : Fg} {m1 : List Addr} {H1 : Hp} (a b : Int) : Walks K cl m1 H1 (Itc a 2 ((b - a + 1) / 2).toNat) (rng2L a b) (fun _ => True) := by
  refine ⟨fun m H S i le R _ hi => ?_, fun m H S i d le R _ hd => ?_⟩
  · unfold rng2L at hi
    rw [List.length_map, List.length_range] at hi
    exact hi
  · obtain ⟨h1, rfl⟩ := rng2L_get hd
    refine ⟨h1, fun x H' y => ?_⟩
    obtain ⟨e, ex⟩ := y
    subst e
    have e2 : a + (i : Int) * 2 = a + 2 * i := by omega
    rw [e2] at ex
    subst ex
    exact ⟨m, Le.refl m _, R, .int _⟩
theorem size2 (a b : Int) : Builtin.Range.rangeSize a b 2 = if a < b then (b - a - 1) / 2 + 1 else 0 := by
  unfold Builtin.Range.rangeSize
  simp only [show (2 : Int) > 0 by decide, if_true]
theorem rg2 {i j : Int} (ha : -1000000 ≤ i) (ha' : i ≤ 1000000) (hb : -1000000 ≤ j) (hb' : j ≤ 1000000) : RgC i j 2 ((j - i + 1) / 2).toNat := by
  refine ⟨by decide, by decide, ?_, ?_⟩
  · unfold Builtin.Range.small
    rw [size2]
    simp only [Builtin.Range.rangeFitsLong, Bool.and_eq_true, Bool.or_eq_true, decide_eq_true_eq, beq_iff_eq, show (2 : Int) > 0 by decide, if_true]
    split <;> omega
  · rw [size2]
    split <;> omega
theorem enum_get : ∀ {l : List D} {k i : Nat} {d : D}, (enumFrom k l)[i]? = some d → ∃ e, l[i]? = some e ∧ d = .tup [.int ((k + i : Nat) : Int), e]
  | [], _, _, _, h => by simp [enumFrom] at h
  | x :: r, k, 0, d, h => by
    simp [enumFrom] at h
    exact ⟨x, rfl, by rw [← h]; rfl⟩
  | x :: r, k, i + 1, d, h => by
    have h2 : (enumFrom (k + 1) r)[i]? = some d := by simpa [enumFrom] using h
    obtain ⟨e, h3, h4⟩ := enum_get h2
    refine ⟨e, by simpa using h3, ?_⟩
    rw [h4, show k + 1 + i = k + (i + 1) by omega]
theorem enum_len : ∀ (l : List D) (k : Nat), (enumFrom k l).length = l.length
  | [], _ => rfl
  | x :: r, k => by
    show (enumFrom (k + 1) r).length + 1 = r.length + 1
    rw [enum_len r]
theorem walks_enum {K : Fg} {m1 : List Addr} {H1 : Hp} {S1 : Store} {a : Addr} {x : D} {l : List D} {G : Store → Prop} (R1 : RS K cl m1 H1 S1) (rd : RD K m1 H1 x (.ref a))
    (h : (x = .tup l ∧ G = fun _ => True) ∨ (x = .fl l ∧ G = fun _ => True) ∨ ∃ n, x = .ref n ∧ lst? S1 n = some l ∧ G = fun S => lst? S n = some l) :
    ((∃ xs, SqL K H1 a xs) ∧ Walks K cl m1 H1 (Ite K a) (enumL l) G) ∨ ((∃ xs, SqT K H1 a xs) ∧ Walks K cl m1 H1 (Iet K a) (enumL l) G) := by
  have key : ∀ {m : List Addr} {H : Hp} {S : Store} {i : Nat} {vs : List V} {d e : D} {v : V} {T : Addr}, RS K cl m H S → H T = none → RD K m H e v → RD K m (upd H T (.tup [.int (i : Nat), v])) (.tup [.int ((0 + i : Nat) : Int), e]) (.ref T) := by
    intro m H S i vs d e v T R nT re
    refine .tup (SqT.of upd_same) (.cons ?_ (.cons (re.mono (le_new nT)) .nil))
    rw [Nat.zero_add]
    exact .int _
  rcases h with ⟨rfl, rfl⟩ | ⟨rfl, rfl⟩ | ⟨n, rfl, e, rfl⟩
  · cases rd with
    | @tup _ vs _ ht q =>
      refine .inr ⟨⟨_, ht⟩, fun m H S i le R _ hi => ⟨vs, le.sqT ht, by rw [enumL, enum_len] at hi; rw [← q.length]; exact hi⟩, fun m H S i d le R _ hd => ?_⟩
      obtain ⟨e, he, rfl⟩ := enum_get hd
      obtain ⟨v, hv, rv⟩ := q.get he
      refine ⟨⟨vs, v, le.sqT ht, hv⟩, fun y H' hy => ?_⟩
      obtain ⟨T, x, ex, nT, eH, e2⟩ := hy
      subst ex eH
      have e3 := e2 vs (le.sqT ht)
      rw [hv] at e3
      cases e3
      exact ⟨m, le_new nT, R.new nT, key (vs := vs) (d := e) R nT (rv.mono le)⟩
  · cases rd with
    | @fl _ vs _ ht q =>
      refine .inl ⟨⟨_, ht.sq⟩, fun m H S i le R _ hi => ⟨vs, (le.pers ht).sq, by rw [enumL, enum_len] at hi; rw [← q.length]; exact hi⟩, fun m H S i d le R _ hd => ?_⟩
      obtain ⟨e, he, rfl⟩ := enum_get hd
      obtain ⟨v, hv, rv⟩ := q.get he
      refine ⟨⟨vs, v, (le.pers ht).sq, hv⟩, fun y H' hy => ?_⟩
      obtain ⟨T, x, ex, nT, eH, e2⟩ := hy
      subst ex eH
      have e3 := e2 vs (le.pers ht).sq
      rw [hv] at e3
      cases e3
      exact ⟨m, le_new nT, R.new nT, key (vs := vs) (d := e) R nT (rv.mono le)⟩
  · cases rd with
    | ref hm =>
      obtain ⟨vs0, h0, _⟩ := R1.at_ n a _ hm (lst_some e)
      refine .inl ⟨⟨_, SqL.of h0⟩, fun m H S i le R g hi => ?_, fun m H S i d le R g hd => ?_⟩
      · obtain ⟨vs, h1, q⟩ := R.at_ n a _ (le.pre _ _ hm) (lst_some g)
        exact ⟨vs, SqL.of h1, by rw [enumL, enum_len] at hi; rw [← q.length]; exact hi⟩
      · obtain ⟨vs, h1, q⟩ := R.at_ n a _ (le.pre _ _ hm) (lst_some g)
        obtain ⟨e, he, rfl⟩ := enum_get hd
        obtain ⟨v, hv, rv⟩ := q.get he
        refine ⟨⟨vs, v, SqL.of h1, hv⟩, fun y H' hy => ?_⟩
        obtain ⟨T, x, ex, nT, eH, e2⟩ := hy
        subst ex eH
        have e3 := e2 vs (SqL.of h1)
        rw [hv] at e3
        cases e3
        exact ⟨m, le_new nT, R.new nT, key (vs := vs) (d := e) R nT rv⟩
theorem walks_keys {K : Fg} {m1 : List Addr} {H1 : Hp} {a : Addr} {n : Nat} {o : Obj} {kvs : List (Key × D)} {l : List (Key × V)} (hn : m1[n]? = some a) (h1 : H1 a = some (.frz o (.dK l))) (q : KR K m1 H1 kvs l) :
    Walks K cl m1 H1 (Itk a o l) (kvs.map fun kv => keyD kv.1) (fun S => S[n]? = some (.fdct kvs)) := by
  refine ⟨fun m H S i le R g hi => ⟨le.frz _ _ _ h1, by rw [List.length_map] at hi; rw [← q.length]; exact hi⟩, fun m H S i d le R g hd => ?_⟩
  have q2 := RDs.keys q
  obtain ⟨v, hv, rv⟩ := q2.get hd
  have hlt : i < l.length := by
    have := (List.getElem?_eq_some_iff.mp hv).1
    rwa [List.length_map] at this
  refine ⟨⟨le.frz _ _ _ h1, hlt⟩, fun x H' y => ?_⟩
  obtain ⟨e, k, w, hk, ex⟩ := y
  subst e ex
  rw [List.getElem?_map, hk] at hv
  cases hv
  exact ⟨m, Le.refl m _, R, rv.mono le⟩
/-- the walk of the small language, as one of the layer -/
def lI (K : Fg) (cl : Cl) (F : Sem) (it : It) : TI := fun σ H R => ∃ m ρ S, RS K cl m H S ∧ RE K m H ρ σ ∧ wpIt F it ρ S (fun l G S1 => ∀ m1 H1 J, Le m H m1 H1 → RS K cl m1 H1 S1 → Walks K cl m1 H1 J l G → R J H1) noX
theorem PI.mono {tg l : Expr} {t t' : TI} (h : PI X tg l t) (k : ∀ σ H R, t' σ H R → t σ H R) : PI X tg l t' := ⟨fun pins s σ H R I q => h.run pins s σ H R I (k σ H R q)⟩
theorem folded_not {x : Expr} {env : PySem.Env} (h : isSet x = false) (v : Value) : foldedSetIterable x env v = pure v := by
  cases x <;> first | rfl | cases h
end
end Mn

/-! Comprehensions. -/
namespace Mn
open PySem PySem.Spec PyProof.Rows L2
section
variable {c : Cxt} {cl : Cl} {F : Sem} {X : Cx}
theorem RE.none {K : Fg} {m : List Addr} {H : Hp} {ρ : Env} {σ : L2.St} (r : RE K m H ρ σ) (i : Nat) : RE K m H (ρ.set i none) (σ.set i none) := by
  refine ⟨by rw [List.length_set, List.length_set]; exact r.len, fun j d e => ?_⟩
  by_cases h : j = i
  · subst h
    by_cases hl : j < ρ.length
    · rw [List.getElem?_set_self hl] at e; cases e
    · rw [List.getElem?_eq_none (by rw [List.length_set]; omega)] at e; cases e
  · rw [List.getElem?_set_ne (Ne.symm h)] at e ⊢
    exact r.at_ j d e
theorem RE.wiped {K : Fg} {m : List Addr} {H : Hp} {ρ : Env} {σ : L2.St} (r : RE K m H ρ σ) : ∀ vs : List Nat, RE K m H (wipeE ρ vs) (wipe σ vs)
  | [] => r
  | v :: vs => (RE.wiped r vs).none v
theorem lc_snd {own : List Nat} {t : Tg} {it : It} {cd e : E} {tt : TT} {σ : L2.St} {H : Hp} {Q : VK} (hF : SemMono F) (hs : ∀ i ∈ t.slots, i ∈ own) (ht : ∀ σ H Q, tB (lE X.K cl F cd) σ H Q → tt σ H Q)
    (h : lE X.K cl F (.lc own t it cd e) σ H Q) : tLc (lI X.K cl F it) (lG X.K cl t) tt (lE X.K cl F e) own σ H Q := by
  obtain ⟨m, ρ, S, R, re, q⟩ := h
  replace q : wpIt F it ρ S (fun l G S1 => wpLc t G (fun ρ S Q => wpE F cd ρ S Q noX) (fun ρ S Q => wpE F e ρ S Q noX) (fun S2 => up X.K cl m H Q (.ref S1.length) S2) S1.length (wipeE ρ own) l [] (S1 ++ [.lst []])) noX := q
  refine ⟨m, ρ, S, R, re, wpIt_mono hF it (fun l G S1 q1 m1 H1 J le1 R1 wk D nD => ?_) (fun _ _ z => z) q⟩
  have R1' := R1.pushL nD (RDs.nil (K := X.K) (m := m1) (H := H1))
  have l1' : Le m1 H1 (m1 ++ [D]) (upd H1 D (.lst [])) := le_push nD
  have hD1 := R1.last D
  have rew := ((re.mono le1).mono l1').wiped own
  refine ⟨fun i k H' => ∃ m' S' acc, Le (m1 ++ [D]) (upd H1 D (.lst [])) m' H' ∧ RS X.K cl m' H' S' ∧ k = (l.drop i).length ∧ wpLc t G (fun ρ S Q => wpE F cd ρ S Q noX) (fun ρ S Q => wpE F e ρ S Q noX) (fun S2 => up X.K cl m H Q (.ref S1.length) S2) S1.length (wipeE ρ own) (l.drop i) acc S',
    ⟨_, _, _, [], Le.refl _ _, R1', rfl, q1⟩, fun i k H' hW => ?_⟩
  obtain ⟨m', S', acc, le', R', en, q'⟩ := hW
  by_cases hi : i < l.length
  · have ed : l.drop i = l[i] :: l.drop (i + 1) := List.drop_eq_getElem_cons hi
    rw [ed] at q' en
    obtain ⟨g, q2⟩ := q'
    obtain ⟨go, yld⟩ := wk.2 m' H' S' i l[i] (l1'.trans le') R' g (List.getElem?_eq_getElem hi)
    refine .inr ⟨go, fun H2 => ∃ m' S' acc, Le (m1 ++ [D]) (upd H1 D (.lst [])) m' H2 ∧ RS X.K cl m' H2 S' ∧ wpLc t G (fun ρ S Q => wpE F cd ρ S Q noX) (fun ρ S Q => wpE F e ρ S Q noX) (fun S2 => up X.K cl m H Q (.ref S1.length) S2) S1.length (wipeE ρ own) (l.drop (i + 1)) acc S', fun H2 hN => ?_, fun x H2 hx => ?_⟩
    · obtain ⟨m2, S2, acc2, a1, a2, a4⟩ := hN
      refine ⟨_, ?_, m2, S2, acc2, a1, a2, rfl, a4⟩
      rw [en, List.length_cons]
      omega
    · obtain ⟨m2, le2, R2, rd⟩ := yld x H2 hx
      split at q2
      · rename_i ρ2 e2
        refine lG_go R2 (rew.mono (le'.trans le2)) rd e2 fun m3 H3 σ3 le3 R3 re3 of3 => ⟨of3.wipe hs, ht _ _ _ ?_⟩
        refine le_step hF cd R3 re3 q2 fun x S4 m4 H4 v q3 le4 R4 rd4 re4 => ?_
        have l4 := ((le'.trans le2).trans le3).trans le4
        split at q3
        · refine ⟨true, bl_of rd4, (if_pos rfl).mpr (le_step hF e R4 re4 q3 fun y S5 m5 H5 v5 q5 le5 R5 rd5 re5 => ?_)⟩
          obtain ⟨g5, b5, q6⟩ := q5
          have hm := (l4.trans le5).pre _ _ hD1
          obtain ⟨vs, hD, qv⟩ := R5.at_ _ _ _ hm g5
          have hl := lim_le
          have := qv.length
          refine ⟨vs, hD, by omega, m5, S5.set S1.length (.lst (acc ++ [y])), acc ++ [y], (l4.trans le5).trans (le_set hD trivial), R5.set hm hD trivial ⟨_, upd_same, (qv.append (.cons rd5 .nil)).mono (le_set hD trivial)⟩, q6⟩
        · exact ⟨false, bl_of rd4, (if_neg Bool.false_ne_true).mpr ⟨m4, S4, acc, l4, R4, q3⟩⟩
        · exact q3.elim
      · exact q2.elim
  · rw [List.drop_eq_nil_of_le (by omega)] at q'
    exact .inl ⟨wk.1 m' H' S' i (l1'.trans le') R' q'.1 (by omega), q'.2 m' H' _ ((le1.trans l1').trans le') R' (.ref (le'.pre _ _ hD1))⟩
theorem KR.put {K : Fg} {m : List Addr} {H : Hp} {l : List (Key × D)} {kvs : List (Key × V)} {k : Key} {d : D} {v : V} (r : KR K m H l kvs) (rd : RD K m H d v) : KR K m H (dPut l k d) (putK kvs k v) := by
  unfold dPut putK
  rw [r.any k]
  split
  · exact r.upd rd
  · exact r.append (.cons rd .nil)
theorem dc_snd {own : List Nat} {t : Tg} {it : It} {kd e : E} {σ : L2.St} {H : Hp} {Q : VK} (hF : SemMono F) (hs : ∀ i ∈ t.slots, i ∈ own)
    (h : lE X.K cl F (.dc own t it kd e) σ H Q) : tDc (lI X.K cl F it) (lG X.K cl t) tYes (lE X.K cl F kd) (lE X.K cl F e) own σ H Q := by
  obtain ⟨m, ρ, S, R, re, q⟩ := h
  replace q : wpIt F it ρ S (fun l G S1 => wpDc t G (fun ρ S Q => wpE F kd ρ S Q noX) (fun ρ S Q => wpE F e ρ S Q noX) (fun S2 => up X.K cl m H Q (.ref S1.length) S2) S1.length (wipeE ρ own) l [] (S1 ++ [.dct []])) noX := q
  refine ⟨m, ρ, S, R, re, wpIt_mono hF it (fun l G S1 q1 m1 H1 J le1 R1 wk D nD => ?_) (fun _ _ z => z) q⟩
  have l1' : Le m1 H1 (m1 ++ [D]) (upd H1 D (.dK [])) := le_push nD
  have R1' : RS X.K cl (m1 ++ [D]) (upd H1 D (.dK [])) (S1 ++ [.dct []]) := R1.push nD ⟨[], upd_same, .nil⟩
  have hD1 := R1.last D
  have rew := ((re.mono le1).mono l1').wiped own
  refine ⟨fun i k H' => ∃ m' S' acc, Le (m1 ++ [D]) (upd H1 D (.dK [])) m' H' ∧ RS X.K cl m' H' S' ∧ k = (l.drop i).length ∧ wpDc t G (fun ρ S Q => wpE F kd ρ S Q noX) (fun ρ S Q => wpE F e ρ S Q noX) (fun S2 => up X.K cl m H Q (.ref S1.length) S2) S1.length (wipeE ρ own) (l.drop i) acc S',
    ⟨_, _, _, [], Le.refl _ _, R1', rfl, q1⟩, fun i k H' hW => ?_⟩
  obtain ⟨m', S', acc, le', R', en, q'⟩ := hW
  by_cases hi : i < l.length
  · have ed : l.drop i = l[i] :: l.drop (i + 1) := List.drop_eq_getElem_cons hi
    rw [ed] at q' en
    obtain ⟨g, q2⟩ := q'
    obtain ⟨go, yld⟩ := wk.2 m' H' S' i l[i] (l1'.trans le') R' g (List.getElem?_eq_getElem hi)
    refine .inr ⟨go, fun H2 => ∃ m' S' acc, Le (m1 ++ [D]) (upd H1 D (.dK [])) m' H2 ∧ RS X.K cl m' H2 S' ∧ wpDc t G (fun ρ S Q => wpE F kd ρ S Q noX) (fun ρ S Q => wpE F e ρ S Q noX) (fun S2 => up X.K cl m H Q (.ref S1.length) S2) S1.length (wipeE ρ own) (l.drop (i + 1)) acc S', fun H2 hN => ?_, fun x H2 hx => ?_⟩
    · obtain ⟨m2, S2, acc2, a1, a2, a4⟩ := hN
      refine ⟨_, ?_, m2, S2, acc2, a1, a2, rfl, a4⟩
      rw [en, List.length_cons]
      omega
    · obtain ⟨m2, le2, R2, rd⟩ := yld x H2 hx
      split at q2
      · rename_i ρ2 e2
        refine lG_go R2 (rew.mono (le'.trans le2)) rd e2 fun m3 H3 σ3 le3 R3 re3 of3 => ⟨of3.wipe hs, ?_⟩
        unfold tYes
        dsimp only
        rw [if_pos rfl]
        refine le_step hF kd R3 re3 q2 fun x S4 m4 H4 v q3 le4 R4 rd4 re4 => ?_
        have l4 := ((le'.trans le2).trans le3).trans le4
        split at q3
        · rename_i k ek
          refine le_step hF e R4 re4 q3 fun y S5 m5 H5 v5 q5 le5 R5 rd5 re5 => ?_
          obtain ⟨g5, b5, q6⟩ := q5
          have hm := (l4.trans le5).pre _ _ hD1
          obtain ⟨vs, hD, qv⟩ := R5.at_ _ _ _ hm g5
          have hl := lim_le
          have := qv.length
          refine ⟨vs, k, key_of_rd rd4 ek, hD, by omega, m5, S5.set S1.length (.dct (dPut acc k y)), dPut acc k y, (l4.trans le5).trans (le_set hD trivial), R5.set hm hD trivial ⟨_, upd_same, (qv.put rd5).mono (le_set hD trivial)⟩, q6⟩
        · exact q3.elim
      · exact q2.elim
  · rw [List.drop_eq_nil_of_le (by omega)] at q'
    exact .inl ⟨wk.1 m' H' S' i (l1'.trans le') R' q'.1 (by omega), q'.2 m' H' _ ((le1.trans l1').trans le') R' (.ref (le'.pre _ _ hD1))⟩
/-- the context of a block -/
theorem XOk.blk (ok : XOk c cl F X) {scope : Scope} (s : Shared) (H : Hp) (C : Addr) (cs : List (Str × Addr)) (fp : List Addr) : XOk (inBlk c scope) cl F (X.blk s H scope (compEnvC scope cs C X.env) fp) where
  N := ok.N
  nd := ok.nd
  sc := by
    show relS scope X.env.scope = relS scope c.sc
    rw [ok.sc]
  calm := ok.calm
  units := ok.units
  tg := fun h => by cases h
  fns := fun p hp => ⟨(ok.fns p hp).ex⟩
  flds := ok.flds
  mts := fun k m f ar h => ⟨(ok.mts k m f ar h).ex⟩
  mks := fun x k f ar h => ⟨(ok.mks x k f ar h).ex⟩
  csts := ok.csts
  free := ok.free
end
end Mn

/-! Calls of methods, instances. -/
namespace Mn
open PySem PySem.Spec PyProof.Rows L2
theorem base_not {o : Expr} {f : Str} {env : PySem.Env} {w : PySem.Sem Value} (h : isCall o = false) : attributeBase o f env w = w := by
  cases o <;> first | rfl | cases h
theorem few_of {xs : List Expr} {env : PySem.Env} {pos : Pos} (st : ∀ x ∈ xs, starred x = false) : (backTo pos (starEach xs env)).all (fun x => !x.1) = true := by
  have h := star_any (env := env) (pos := pos) st
  rw [List.all_eq_not_any_not]
  simpa using h
theorem form_of {xs : List Expr} {env : PySem.Env} {pos : Pos} (st : ∀ x ∈ xs, starred x = false) (hl : xs.length < 30) :
    ((backTo pos (starEach xs env)).all (fun x => !x.1) && (backToKw pos (keywordEach [] env)).all (fun x => x.1.isSome) && decide (xs.length + ([] : List Keyword).length + (if ([] : List Keyword).isEmpty then 0 else 1) < 30)) = true := by
  rw [few_of st]
  show (true && true && decide (xs.length + 0 + 0 < 30)) = true
  simpa using hl
theorem mform_of {xs : List Expr} {env : PySem.Env} {pos : Pos} (st : ∀ x ∈ xs, starred x = false) (hl : xs.length < 30) : methodCallForm (xs.length + ([] : List Keyword).length) (backTo pos (starEach xs env)) (backToKw pos (keywordEach [] env)) = true := by
  unfold methodCallForm
  rw [few_of st]
  show (true && true && decide (xs.length + 0 + 0 < 30)) = true
  simpa using hl
theorem meth_eval {o : Expr} {m : Str} {apos pos : Pos} {xs : List Expr} {env : PySem.Env} (ho : isCall o = false) (st : ∀ x ∈ xs, starred x = false) (hl : xs.length < 30) (hp : (apos.endLine == pos.line) = true) :
    eval (.Call (.Attribute o m apos) xs [] pos) env = (do
      let ov ← eval o env
      standAt apos.atName
      let (f, first) ← holding [ov] (getMethod ov m (do return (← importBound o env).getD true))
      callWith pos f first (backTo pos (starEach xs env)) (backToKw pos (keywordEach [] env))) := by
  refine mcall_of (base_not ho) fun ov => ?_
  unfold methodCall
  rw [mform_of st hl]
  unfold calleeOf methodCallPos
  rw [hp]
  rfl
section
variable {c : Cxt} {cl : Cl} {F : Sem} {X : Cx}
theorem nilA {K : Fg} {σ : L2.St} {H : Hp} {Q : List V → Hp → Prop} (h : lA K cl F .nil σ H Q) : tNil σ H Q := by
  obtain ⟨m, ρ, S, R, re, q⟩ := h
  exact q m H [] (Le.refl m H) R .nil
theorem RD.ins {K : Fg} {m : List Addr} {H : Hp} {S : Store} {d : D} {v : V} {k : Nat} {fs : List (Str × D)} (R : RS K cl m H S) (r : RD K m H d v) (e : inst? S d = some (k, fs)) :
    ∃ n a C dx gs, d = .ref n ∧ m[n]? = some a ∧ v = .ref a ∧ S[n]? = some (.ins k fs) ∧ cl k = some C ∧ H a = some (.ins C dx gs) ∧ KR K m H fs gs := by
  cases r with
  | ref hm =>
    unfold inst? at e
    dsimp only at e
    split at e
    · rename_i c' fs' g
      cases e
      obtain ⟨C, dx, gs, h1, h2, h3⟩ := R.at_ _ _ _ hm g
      exact ⟨_, _, C, dx, gs, rfl, hm, rfl, g, h1, h2, h3⟩
    · cases e
  | _ => cases e
theorem rds_rng {K : Fg} {m : List Addr} {H : Hp} (n : Int) : RDs K m H (rngL 0 n) (rgV 0 n) := by
  unfold rngL rgV
  generalize List.range (n - 0).toNat = l
  induction l with
  | nil => exact .nil
  | cons a l ih => exact .cons (.int _) ih
theorem recv_ty {K : Fg} {m : List Addr} {H : Hp} {S : Store} {b : Bm} {d : D} {v : V} (R : RS K cl m H S) (r : RD K m H d v) (h : recv b d S = true) : tyV K (bmT b).1 v H := by
  have hl : (lq? S d).isSome = true → tyV K "list" v H := fun e => by
    cases q : lq? S d with
    | none => rw [q] at e; cases e
    | some l =>
      obtain ⟨a, vs, rfl, hq, _⟩ := r.lq R q
      exact .inl ⟨rfl, vs, hq⟩
  have hd : (dct? S d).isSome = true → tyV K "dict" v H := fun e => by
    cases q : dct? S d with
    | none => rw [q] at e; cases e
    | some l =>
      obtain ⟨n, a, kvs, rfl, hm, rfl, g, h1, _⟩ := r.dct R q
      exact .inr (.inr (.inl ⟨rfl, .inl ⟨kvs, h1⟩⟩))
  cases b <;> first | exact hl h | exact hd h | skip
  unfold recv at h
  dsimp only at h
  split at h
  · cases r; exact rfl
  · cases h
theorem mt_all (ok : XOk c cl F X) (b : Bm) : MtR X (bmT b).2.2 (rBm X.K cl b) := by
  cases b with
  | append => exact bm_append
  | pop => exact bm_pop
  | popAt => exact bm_popAt
  | insert => exact bm_insert
  | remove => exact bm_remove
  | index => exact bm_index
  | get1 => exact bm_get1 ok.units
  | get2 => exact bm_get2 ok.units
  | dpop => exact bm_dpop
  | bitlen => exact bm_bits
theorem pa_all (b : Bm) : PlainAttrs (bmT b).1 := by
  cases b with
  | append => exact PySem.F.plainAttrs_list
  | pop => exact PySem.F.plainAttrs_list
  | popAt => exact PySem.F.plainAttrs_list
  | insert => exact PySem.F.plainAttrs_list
  | remove => exact PySem.F.plainAttrs_list
  | index => exact PySem.F.plainAttrs_list
  | get1 => exact PySem.F.plainAttrs_dict
  | get2 => exact PySem.F.plainAttrs_dict
  | dpop => exact PySem.F.plainAttrs_dict
  | bitlen => exact PySem.F.plainAttrs_int
theorem slot_all (b : Bm) : Slot (bmT b).1 ((bmT b).2.1 : Str) (bmT b).2.2 := by
  cases b with
  | append => exact PySem.F.slot_list_append
  | pop => exact PySem.F.slot_list_pop
  | popAt => exact PySem.F.slot_list_pop
  | insert => exact PySem.F.slot_list_insert
  | remove => exact PySem.F.slot_list_remove
  | index => exact PySem.F.slot_list_index
  | get1 => exact PySem.F.slot_dict_get
  | get2 => exact PySem.F.slot_dict_get
  | dpop => exact PySem.F.slot_dict_pop
  | bitlen => exact PyProof.Rows.slot_int_bit_length
theorem type_all (b : Bm) : typeOf (.builtin (bmT b).2.2) = pure (.type "method_descriptor") := by
  cases b with
  | append => exact PySem.F.type_list_append
  | pop => exact PySem.F.type_list_pop
  | popAt => exact PySem.F.type_list_pop
  | insert => exact PySem.F.type_list_insert
  | remove => exact PySem.F.type_list_remove
  | index => exact PySem.F.type_list_index
  | get1 => exact PySem.F.type_dict_get
  | get2 => exact PySem.F.type_dict_get
  | dpop => exact PySem.F.type_dict_pop
  | bitlen => exact PyProof.Rows.type_int_bit_length
theorem pe_bmD (hF : SemMono F) (ok : XOk c cl F X) {b : Bm} {o : E} {es : Es} {y : Expr} {xs : List Expr} {p q : Pos} (O : PE X y (lE X.K cl F o)) (A : PA X xs (lA X.K cl F es)) (st : ∀ x ∈ xs, starred x = false) (ho : isCall y = false) (hp : (p.endLine == q.line) = true) (hl : xs.length < 3) (hn : es.len = xs.length) :
    PE X (.Call (.Attribute y ((bmT b).2.1 : Str) p) xs [] q) (lE X.K cl F (.bm b o es)) := by
  cases xs with
  | nil =>
    refine PE.mono (pe_bm0 (pa_all b) (slot_all b) (type_all b) (mt_all (F := F) ok b) O (base_not ho) hp) fun σ H Q w => ?_
    obtain ⟨m, ρ, S, R, re, w⟩ := w
    refine le_step hF o R re w fun d S1 m1 H1 v w le R1 rd re1 => ?_
    cases es with
    | cons _ _ => cases hn
    | nil => exact ⟨recv_ty R1 rd w.1, m1, S1, d, [], R1, rd, .nil, bm_mono (fun _ _ => up_le le) w.2⟩
  | cons x xs =>
    refine PE.mono (pe_bm (pa_all b) (slot_all b) (type_all b) (mt_all (F := F) ok b) O A (base_not ho) (form_of st (by omega)) hp (star_not (st x List.mem_cons_self)) (star_any fun w hw => st w (List.mem_cons_of_mem _ hw))) fun σ H Q w => ?_
    obtain ⟨m, ρ, S, R, re, w⟩ := w
    refine le_step hF o R re w fun d S1 m1 H1 v w le R1 rd re1 => ⟨recv_ty R1 rd w.1, ?_⟩
    refine la_step hF es R1 re1 w.2 fun ds S2 m2 H2 vs w2 le2 R2 rd2 re2 => ?_
    exact ⟨m2, S2, d, ds, R2, rd.mono le2, rd2, bm_mono (fun _ _ => up_le (le.trans le2)) w2⟩
end
end Mn

/-! What is checked does what the small language says: expressions. -/
namespace Mn
open PySem PySem.Spec PyProof.Rows L2
section
variable {cl : Cl} {F : Sem}
mutual
theorem sndE (hF : SemMono F) : ∀ (e : E) {c : Cxt} {X : Cx} (ok : XOk c cl F X) (x : Expr), chkE e c x = true → Snd c cl F X e x
  | .bad, c, X, ok, x, _ => ⟨PE.bad fun σ H Q ⟨_, _, _, _, _, h⟩ => h, fun _ => PT.bad fun σ H Q ⟨_, _, _, _, _, h⟩ => h⟩
  | .no, c, X, ok, x, h => by cases h
  | .v i, c, X, ok, x, h => by
    unfold chkE at h
    split at h
    · obtain ⟨h1, h2, h3⟩ := and3 h
      obtain ⟨k1, k2, k3⟩ := okN_of h3
      refine Snd.plain (PE.mono (pe_var (i := i) (by rw [ok.N]; exact of_decide_eq_true h1) (by rw [ok.sc]; exact vis_of h2) k1 k2) fun σ H Q q => ?_) rfl
      obtain ⟨m, ρ, S, R, re, q⟩ := q
      replace q : (match ρ[i]? with | some (some d) => up X.K cl m H Q d S | _ => False) := q
      split at q
      · rename_i d e
        obtain ⟨v, ev, rd⟩ := re.at_ i d e
        exact ⟨v, ev, up_here q R rd⟩
      · exact q.elim
    · cases h
  | .cst d, c, X, ok, x, h => by
    unfold chkE at h
    split at h
    · rename_i k kk pos
      unfold cstB at h
      split at h
      · exact Snd.plain (PE.mono pe_non fun σ H Q ⟨m, ρ, S, R, re, q⟩ => up_here q R .non) rfl
      · rw [show _ = _ from eq_of_beq h]
        exact Snd.plain (PE.mono pe_bl fun σ H Q ⟨m, ρ, S, R, re, q⟩ => up_here q R (.bl _)) rfl
      · rw [show _ = _ from of_decide_eq_true h]
        exact Snd.plain (PE.mono pe_int fun σ H Q ⟨m, ρ, S, R, re, q⟩ => up_here q R (.int _)) rfl
      · rw [show _ = _ from of_decide_eq_true h]
        exact Snd.plain (PE.mono pe_str fun σ H Q ⟨m, ρ, S, R, re, q⟩ => up_here q R (.str _)) rfl
      · cases h
    · obtain ⟨h1, h2, h3⟩ := and3 h
      obtain ⟨p, hp, h4⟩ := List.any_eq_true.mp h3
      obtain ⟨h5, h6⟩ := and2 h4
      obtain ⟨px, pd⟩ := p
      have e1 := of_decide_eq_true h5
      have e2 := D.beq_eq h6
      dsimp only at e1 e2
      subst e1 e2
      obtain ⟨u, v, g1, g2, g3⟩ := ok.csts _ _ hp
      refine Snd.plain (PE.mono (pe_glob (v := v) (show X.env.scope.names.lookup _ = _ by rw [ok.sc]; exact gl_of h1) g1 g2 (okN_of h2).1) fun σ H Q ⟨m, ρ, S, R, re, q⟩ => ?_) rfl
      exact up_here q R (g3 m H)
    · cases h
  | .and a b, c, X, ok, x, h => by
    unfold chkE at h
    split at h
    · rename_i x y r pos
      obtain ⟨h1, h2⟩ := and2 h
      have A := sndE hF a ok x h1
      cases r with
      | nil =>
        have B := sndE hF b ok y h2
        refine ⟨PE.mono (pe_and A.v (pe_one B.v)) fun σ H Q => and_v hF, fun ht => ?_⟩
        obtain ⟨t1, t2⟩ := and2 ht
        exact PT.mono (PW.pt (pw_and (A.t t1) (pw_and1 (B.t t2)))) fun σ H Q => and_t hF
      | cons z r =>
        have B := sndE hF b ok _ h2
        refine ⟨PE.mono (pe_and A.v B.v) fun σ H Q => and_v hF, fun ht => ?_⟩
        obtain ⟨t1, t2⟩ := and2 ht
        refine PT.mono (PW.pt (pw_and (A.t t1) ?_)) fun σ H Q => and_t hF
        exact ⟨fun wh pins s σ H Q I q => (B.t t2).run pins s σ H Q I q⟩
    · cases h
  | .or a b, c, X, ok, x, h => by
    unfold chkE at h
    split at h
    · rename_i x y r pos
      obtain ⟨h1, h2⟩ := and2 h
      have A := sndE hF a ok x h1
      cases r with
      | nil =>
        have B := sndE hF b ok y h2
        refine ⟨PE.mono (pe_or A.v (pe_one B.v)) fun σ H Q => or_v hF, fun ht => ?_⟩
        obtain ⟨t1, t2⟩ := and2 ht
        exact PT.mono (PW.pt (pw_or (A.t t1) (pw_or1 (B.t t2)))) fun σ H Q => or_t hF
      | cons z r =>
        have B := sndE hF b ok _ h2
        refine ⟨PE.mono (pe_or A.v B.v) fun σ H Q => or_v hF, fun ht => ?_⟩
        obtain ⟨t1, t2⟩ := and2 ht
        refine PT.mono (PW.pt (pw_or (A.t t1) ?_)) fun σ H Q => or_t hF
        exact ⟨fun wh pins s σ H Q I q => (B.t t2).run pins s σ H Q I q⟩
    · cases h
  | .not a, c, X, ok, x, h => by
    unfold chkE at h
    split at h
    · have A := sndE hF a ok _ h
      refine ⟨PE.mono (pe_not A.v) fun σ H Q q => ?_, fun ht => PT.mono (pt_not (A.t ht)) fun σ H Q q => ?_⟩
      · obtain ⟨m, ρ, S, R, re, q⟩ := q
        refine le_step hF a R re q fun d S1 m1 H1 v q le R1 rd re1 => ?_
        split at q
        · exact ⟨_, bl_of rd, up_here (up_le le q) R1 (.bl _)⟩
        · exact q.elim
      · obtain ⟨m, ρ, S, R, re, q⟩ := q
        refine le_step hF a R re q fun d S1 m1 H1 v q le R1 rd re1 => ?_
        split at q
        · obtain ⟨k, e, z⟩ := up_here (up_le le q) R1 (.bl _)
          cases e
          exact ⟨_, bl_of rd, z⟩
        · exact q.elim
    · cases h
  | .ite t a b, c, X, ok, x, h => by
    unfold chkE at h
    split at h
    · obtain ⟨h123, h4⟩ := and2 h
      obtain ⟨h1, h2, h3⟩ := and3 h123
      have T := (sndE hF t ok _ h1).t h2
      have A := (sndE hF a ok _ h3).v
      have B := (sndE hF b ok _ h4).v
      refine ⟨PE.mono (pe_ifExp T A B) fun σ H Q q => ?_, fun z => by cases z⟩
      obtain ⟨m, ρ, S, R, re, q⟩ := q
      refine le_step hF t R re q fun d S1 m1 H1 v q le R1 rd re1 => ?_
      split at q
      · exact ⟨true, bl_of rd, (if_pos rfl).mpr (le_step hF a R1 re1 q fun d2 S2 m2 H2 v2 q2 le2 R2 rd2 re2 => q2 m2 H2 v2 (le.trans le2) R2 rd2)⟩
      · exact ⟨false, bl_of rd, (if_neg Bool.false_ne_true).mpr (le_step hF b R1 re1 q fun d2 S2 m2 H2 v2 q2 le2 R2 rd2 re2 => q2 m2 H2 v2 (le.trans le2) R2 rd2)⟩
      · exact q.elim
    · cases h
  | .bin op a b, c, X, ok, x, h => by
    unfold chkE at h
    split at h
    · obtain ⟨h1, h2, h3⟩ := and3 h
      have A := (sndE hF a ok _ h2).v
      have B := (sndE hF b ok _ h3).v
      have e := of_decide_eq_true h1
      subst e
      refine Snd.plain (PE.mono (pe_op (op_snd (cl := cl) op) A B) fun σ H Q q => ?_) rfl
      obtain ⟨m, ρ, S, R, re, q⟩ := q
      refine le_step hF a R re q fun d S1 m1 H1 v q le R1 rd re1 => le_step hF b R1 re1 q fun d2 S2 m2 H2 v2 q2 le2 R2 rd2 re2 => ?_
      exact ⟨m2, S2, d, d2, R2, rd.mono le2, rd2, bop_mono (fun _ _ => up_le (le.trans le2)) q2⟩
    · cases h
  | .neg a, c, X, ok, x, h => by
    unfold chkE at h
    split at h
    · have A := (sndE hF a ok _ h).v
      refine Snd.plain (PE.mono (pe_un un_neg A) fun σ H Q q => ?_) rfl
      obtain ⟨m, ρ, S, R, re, q⟩ := q
      refine le_step hF a R re q fun d S1 m1 H1 v q le R1 rd re1 => ?_
      split at q
      · exact ⟨_, int_of rd, up_here (up_le le q) R1 (.int _)⟩
      · exact q.elim
    · cases h
  | .cmp op a b, c, X, ok, x, h => by
    unfold chkE at h
    split at h
    · obtain ⟨h123, h4⟩ := and2 h
      obtain ⟨h1, h2, h3⟩ := and3 h123
      have A := (sndE hF a ok _ h2).v
      have B := (sndE hF b ok _ h3).v
      have e := of_decide_eq_true h1
      subst e
      have hm := not_t h4
      refine ⟨PE.mono (pe_cmpR (cmp_snd (cl := cl) op ok.units) A B hm) fun σ H Q => cmp_v hF, fun _ => ?_⟩
      exact PT.mono (pt_cmpR (cmp_snd (cl := cl) op ok.units) A B hm) fun σ H Q q => cmp_v hF q
    · cases h
  | .chn op op2 a b d, c, X, ok, x, h => by
    unfold chkE at h
    split at h
    · obtain ⟨h12345, h6, h7⟩ := and3 h
      obtain ⟨h123, h4, h5⟩ := and3 h12345
      obtain ⟨h1, h2, h3⟩ := and3 h123
      have A := (sndE hF a ok _ h3).v
      have B := (sndE hF b ok _ h4).v
      have G := (sndE hF d ok _ h5).v
      have e := of_decide_eq_true h1
      have e2 := of_decide_eq_true h2
      subst e e2
      have hm := not_t h6
      have hm2 := not_t h7
      refine ⟨PE.mono (pe_chain (cmp_snd (cl := cl) op ok.units) (cmp_snd (cl := cl) op2 ok.units) A B G (show lastMarks _ _ = false from hm2)) fun σ H Q => chn_v hF, fun _ => ?_⟩
      exact PT.mono (pt_chain (cmp_snd (cl := cl) op ok.units) (cmp_snd (cl := cl) op2 ok.units) A B G (show lastMarks _ _ = false from hm2)) fun σ H Q q => chn_v hF q
    · cases h
  | .ix a i, c, X, ok, x, h => by
    unfold chkE at h
    split at h
    · obtain ⟨h1, h2, h3⟩ := and3 h
      have A := (sndE hF a ok _ h1).v
      have B := (sndE hF i ok _ h2).v
      refine Snd.plain (PE.mono (pe_ix (ix_snd (cl := cl) ok.units) A B (plain_ix (by simpa using h3))) fun σ H Q q => ?_) rfl
      obtain ⟨m, ρ, S, R, re, q⟩ := q
      refine le_step hF a R re q fun d S1 m1 H1 v q le R1 rd re1 => le_step hF i R1 re1 q fun d2 S2 m2 H2 v2 q2 le2 R2 rd2 re2 => ?_
      exact ⟨m2, S2, d, d2, R2, rd.mono le2, rd2, ixD_mono (fun _ _ => up_le (le.trans le2)) q2⟩
    · cases h
  | .sl a lo hi, c, X, ok, x, h => by
    unfold chkE at h
    split at h
    · rename_i x l u p2 pos
      obtain ⟨h1, h2, h3⟩ := and3 h
      have A := (sndE hF a ok _ h1).v
      have L : PO X l (lO X.K cl F lo) := by
        cases l with
        | none =>
          dsimp only at h2
          split at h2
          · exact po_no
          · cases h2
        | some l => exact po_snd (sndE hF lo ok _ h2).v hF (fun d o => optP_int (optP_no (no_of h2)) d o)
      have U : PO X u (lO X.K cl F hi) := by
        cases u with
        | none =>
          dsimp only at h3
          split at h3
          · exact po_no
          · cases h3
        | some l => exact po_snd (sndE hF hi ok _ h3).v hF (fun d o => optP_int (optP_no (no_of h3)) d o)
      refine Snd.plain (PE.mono (pe_slice (sl_snd (cl := cl)) A L U) fun σ H Q q => ?_) rfl
      obtain ⟨m, ρ, S, R, re, q⟩ := q
      refine le_step hF a R re q fun d S1 m1 H1 v q le R1 rd re1 => ?_
      refine lo_step hF lo R1 re1 q fun d2 S2 q2 => ?_
      split at q2
      · rename_i l el
        refine ⟨l, el, fun m2 H2 le2 R2 re2 => lo_step hF hi R2 re2 q2 fun d3 S3 q3 => ?_⟩
        split at q3
        · rename_i u eu
          exact ⟨u, eu, fun m3 H3 le3 R3 re3 => ⟨m3, S3, d, R3, rd.mono (le2.trans le3), slD_mono (fun _ _ => up_le ((le.trans le2).trans le3)) q3⟩⟩
        · exact q3.elim
      · exact q2.elim
    · cases h
  | .tup es, c, X, ok, x, h => by
    unfold chkE at h
    split at h
    · have A := sndEs hF es ok _ h
      refine Snd.plain (PE.mono (pe_tup A) fun σ H Q q => ?_) rfl
      obtain ⟨m, ρ, S, R, re, q⟩ := q
      refine la_step hF es R re q fun ds S1 m1 H1 vs q le R1 rd re1 => ?_
      have hl := lim_le
      have e := rd.length
      have := q.1
      exact ⟨by omega, fun p np => q.2 m1 _ _ (le.trans (le_new np)) (R1.new np) (.tup (SqT.of upd_same) (rd.mono (le_new np)))⟩
    · cases h
  | .lst es, c, X, ok, x, h => by
    unfold chkE at h
    split at h
    · have A := sndEs hF es ok _ h
      refine Snd.plain (PE.mono (pe_lst A) fun σ H Q q => ?_) rfl
      obtain ⟨m, ρ, S, R, re, q⟩ := q
      refine la_step hF es R re q fun ds S1 m1 H1 vs q le R1 rd re1 => ?_
      have hl := lim_le
      have e := rd.length
      have := q.1
      exact ⟨by omega, fun p np => q.2 _ _ _ (le.trans (le_push np)) (R1.pushL np rd) (.ref (R1.last p))⟩
    · cases h
  | .rev a, c, X, ok, x, h => by
    unfold chkE at h
    split at h
    · obtain ⟨h1, h2⟩ := and2 h
      have e := of_decide_eq_true h1
      subst e
      have A := (sndE hF a ok _ h2).v
      refine Snd.plain (PE.mono (pe_revL A) fun σ H Q q => ?_) rfl
      obtain ⟨m, ρ, S, R, re, q⟩ := q
      refine le_step hF a R re q fun d S1 m1 H1 v q le R1 rd re1 => ?_
      split at q
      · rename_i l e
        obtain ⟨a, vs, rfl, hq, ql⟩ := rd.lq R1 e
        exact ⟨a, vs, rfl, hq, fun p np => q _ _ _ (le.trans (le_push np)) (R1.pushL np ql.reverse) (.ref (R1.last p))⟩
      · exact q.elim
    · cases h
  | .dct ks vs, c, X, ok, x, h => by
    unfold chkE at h
    split at h
    · split at h
      · refine Snd.plain (PE.mono pe_dnewK fun σ H Q q => ?_) rfl
        obtain ⟨m, ρ, S, R, re, q⟩ := q
        exact fun p np => q _ _ _ (le_push np) (R.push np ⟨[], upd_same, .nil⟩) (.ref (R.last p))
      · cases h
    · cases h
  | .call f es, c, X, ok, x, h => by
    unfold chkE at h
    split at h
    · rename_i x p xs pos
      obtain ⟨h123, h4⟩ := and2 h
      obtain ⟨h1, h2, h3⟩ := and3 h123
      obtain ⟨q, hq, h5⟩ := List.any_eq_true.mp h4
      obtain ⟨k123, k4⟩ := and2 h5
      obtain ⟨k1, k2, k3⟩ := and3 k123
      have e1 := of_decide_eq_true k1
      have e2 := of_decide_eq_true k2
      have e3 := of_decide_eq_true k3
      subst e1 e2
      obtain ⟨k, fa, fd, ps, G, hr, hm, hk, hb⟩ := (ok.fns _ hq).ex
      have en : q.kw = none := by simpa using k4
      rw [en] at hb
      have hg : Gl X q.x := (show X.env.scope.names.lookup _ = _ by rw [ok.sc]; exact gl_of h1)
      have A := sndEs hF es ok _ h3
      have st := chkEs_star h3
      have key : ∀ σ H Q, lE X.K cl F (.call q.f es) σ H Q → tCall (spOf X.K cl F q.f q.ar) [] E0 (lA X.K cl F es) σ H Q := fun σ H Q w => by
        obtain ⟨m, ρ, S, R, re, w⟩ := w
        refine la_step hF es R re (wpEs_len hF es w) fun ds S1 m1 H1 vs w le R1 rd re1 => ?_
        refine ⟨m1, S1, ds, R1, by simpa using rd, ?_, hF _ _ _ _ _ _ _ (fun _ _ => up_le le) (fun _ _ z => z) w.1⟩
        rw [List.append_nil, ← rd.length, w.2, chkEs_len h3, e3]
      refine Snd.plain ?_ rfl
      cases xs with
      | nil =>
        refine PE.mono (pe_call0 G hr hg hm hk hb .nil (pass0 (X := X)) (okN_of h2).1) fun σ H Q w => ?_
        cases es with
        | nil =>
          obtain ⟨m, ρ, S, R, re, w⟩ := w
          exact ⟨m, S, [], R, .nil, e3.symm, w⟩
        | cons _ _ => cases h3
      | cons y ys => exact PE.mono (pe_call G hr hg hm hk hb .nil pass0 A (okN_of h2).1 (star_not (st y List.mem_cons_self)) (star_any fun w hw => st w (List.mem_cons_of_mem _ hw))) key
    · cases h
  | .calld f es d, c, X, ok, x, h => by
    unfold chkE at h
    split at h
    · rename_i x p y xs pos
      obtain ⟨h123, h4⟩ := and2 h
      obtain ⟨h1, h2, h3⟩ := and3 h123
      obtain ⟨q, hq, h5⟩ := List.any_eq_true.mp h4
      obtain ⟨k123, k4⟩ := and2 h5
      obtain ⟨k1, k2, k3⟩ := and3 k123
      have e1 := of_decide_eq_true k1
      have e2 := of_decide_eq_true k2
      have e3 := of_decide_eq_true k3
      subst e1 e2
      obtain ⟨k, fa, fd, ps, G, hr, hm, hk, hb⟩ := (ok.fns _ hq).ex
      split at k4
      · rename_i w ew
        rw [ew] at hb
        obtain ⟨⟨dv, ds, hv, hb, hd⟩, _⟩ := hb
        have ed := D.beq_eq k4
        subst ed
        have hg : Gl X q.x := (show X.env.scope.names.lookup _ = _ by rw [ok.sc]; exact gl_of h1)
        have A := sndEs hF es ok _ h3
        have st := chkEs_star h3
        refine Snd.plain (PE.mono (pe_call G hr hg hm hk hb hv pass0 A (okN_of h2).1 (star_not (st y List.mem_cons_self)) (star_any fun w hw => st w (List.mem_cons_of_mem _ hw))) fun σ H Q w => ?_) rfl
        obtain ⟨m, ρ, S, R, re, w⟩ := w
        refine la_step hF es R re (wpEs_len hF es w) fun ds S1 m1 H1 vs w le R1 rd re1 => ?_
        refine ⟨m1, S1, _, R1, rd.append (.cons (hd m1 H1) .nil), ?_, hF _ _ _ _ _ _ _ (fun _ _ => up_le le) (fun _ _ z => z) w.1⟩
        rw [List.length_append, ← rd.length, w.2, chkEs_len h3, e3]
        rfl
      · cases k4
    · cases h
  | .callk f es k, c, X, ok, x, h => by
    unfold chkE at h
    split at h
    · rename_i x p y xs n z kp pos
      obtain ⟨h123, h4, h6⟩ := and3 h
      obtain ⟨h1, h2, h3⟩ := and3 h123
      obtain ⟨q, hq, h5⟩ := List.any_eq_true.mp h6
      obtain ⟨k123, k4⟩ := and2 h5
      obtain ⟨k1, k2, k3⟩ := and3 k123
      have e1 := of_decide_eq_true k1
      have e2 := of_decide_eq_true k2
      have e3 := of_decide_eq_true k3
      subst e1 e2
      obtain ⟨kk, fa, fd, ps, G, hr, hm, hk, hb⟩ := (ok.fns _ hq).ex
      split at k4
      · rename_i w ew
        rw [ew] at hb
        obtain ⟨_, hb⟩ := hb
        have ed := of_decide_eq_true k4
        subst ed
        have hg : Gl X q.x := (show X.env.scope.names.lookup _ = _ by rw [ok.sc]; exact gl_of h1)
        have A := sndEs hF es ok _ h3
        have B := (sndE hF k ok _ h4).v
        have st := chkEs_star h3
        refine Snd.plain (PE.mono (pe_callN G hr hg hm hk hb pass0 A (pk_cons B pk_nil) rfl rfl (okN_of h2).1 (star_not (st y List.mem_cons_self)) ?_) fun σ H Q w => ?_) rfl
        · rw [star_any st]
          rfl
        · obtain ⟨m, ρ, S, R, re, w⟩ := w
          refine la_step hF es R re (wpEs_len hF es w) fun ds S1 m1 H1 vs w le R1 rd re1 => le_step hF k R1 re1 w.1 fun d2 S2 m2 H2 v2 w2 le2 R2 rd2 re2 => ?_
          have hl : vs.length = q.ar - 1 := by
            rw [← rd.length, w.2, chkEs_len h3, e3]
            rfl
          refine ⟨hl, rfl, m2, S2, _, R2, (rd.mono le2).append (.cons rd2 .nil), ?_, hF _ _ _ _ _ _ _ (fun _ _ => up_le (le.trans le2)) (fun _ _ z => z) w2⟩
          rw [List.length_append, hl, e3]
          rfl
      · cases k4
    · cases h
  | .blt b es, c, X, ok, x, h => by
    cases b with
    | len =>
      unfold chkE at h
      dsimp only at h
      split at h
      · obtain ⟨h1, h2⟩ := and2 h
        exact Snd.plain (pe_blt1 hF ok h1 (sndEs hF es ok _ h2) (chkEs_star h2) boot_len blt_len) rfl
      · cases h
    | max2 =>
      unfold chkE at h
      dsimp only at h
      split at h
      · obtain ⟨h1, h2⟩ := and2 h
        exact Snd.plain (pe_blt1 hF ok h1 (sndEs hF es ok _ h2) (chkEs_star h2) boot_max (blt_max2 ok.calm)) rfl
      · cases h
    | min2 =>
      unfold chkE at h
      dsimp only at h
      split at h
      · obtain ⟨h1, h2⟩ := and2 h
        exact Snd.plain (pe_blt1 hF ok h1 (sndEs hF es ok _ h2) (chkEs_star h2) boot_min (blt_min2 ok.calm)) rfl
      · cases h
    | list1 =>
      unfold chkE at h
      dsimp only at h
      split at h
      · obtain ⟨h1, h2⟩ := and2 h
        exact Snd.plain (pe_bltT hF ok h1 (sndEs hF es ok _ h2) (chkEs_star h2 _ List.mem_cons_self) boot_listT (blt_list ok.calm)) rfl
      · cases h
    | tuple1 =>
      unfold chkE at h
      dsimp only at h
      split at h
      · obtain ⟨h1, h2⟩ := and2 h
        exact Snd.plain (pe_bltT hF ok h1 (sndEs hF es ok _ h2) (chkEs_star h2 _ List.mem_cons_self) boot_tupleT blt_tuple) rfl
      · cases h
    | int1 =>
      unfold chkE at h
      dsimp only at h
      split at h
      · obtain ⟨h1, h2⟩ := and2 h
        exact Snd.plain (pe_bltT hF ok h1 (sndEs hF es ok _ h2) (chkEs_star h2 _ List.mem_cons_self) boot_intT blt_int) rfl
      · cases h
    | dict1 =>
      unfold chkE at h
      dsimp only at h
      split at h
      · obtain ⟨h1, h2⟩ := and2 h
        exact Snd.plain (pe_bltT hF ok h1 (sndEs hF es ok _ h2) (chkEs_star h2 _ List.mem_cons_self) boot_dictT blt_dict) rfl
      · cases h
    | sorted1 =>
      unfold chkE at h
      dsimp only at h
      split at h
      · obtain ⟨h1, h2⟩ := and2 h
        exact Snd.plain (pe_blt1 hF ok h1 (sndEs hF es ok _ h2) (chkEs_star h2) boot_sortedB (blt_sorted ok.units)) rfl
      · cases h
    | min1 =>
      unfold chkE at h
      dsimp only at h
      split at h
      · obtain ⟨h1, h2⟩ := and2 h
        exact Snd.plain (pe_blt1 hF ok h1 (sndEs hF es ok _ h2) (chkEs_star h2) boot_min (blt_min ok.calm ok.units)) rfl
      · cases h
    | max1 =>
      unfold chkE at h
      dsimp only at h
      split at h
      · obtain ⟨h1, h2⟩ := and2 h
        exact Snd.plain (pe_blt1 hF ok h1 (sndEs hF es ok _ h2) (chkEs_star h2) boot_max (blt_max ok.calm ok.units)) rfl
      · cases h
    | sum1 =>
      unfold chkE at h
      dsimp only at h
      split at h
      · obtain ⟨h1, h2⟩ := and2 h
        exact Snd.plain (pe_blt1 hF ok h1 (sndEs hF es ok _ h2) (chkEs_star h2) boot_sumB (blt_sum ok.calm)) rfl
      · cases h
    | any1 =>
      unfold chkE at h
      dsimp only at h
      split at h
      · obtain ⟨h1, h2⟩ := and2 h
        exact Snd.plain (pe_blt1 hF ok h1 (sndEs hF es ok _ h2) (chkEs_star h2) boot_anyB (blt_any ok.calm)) rfl
      · cases h
    | all1 =>
      unfold chkE at h
      dsimp only at h
      split at h
      · obtain ⟨h1, h2⟩ := and2 h
        exact Snd.plain (pe_blt1 hF ok h1 (sndEs hF es ok _ h2) (chkEs_star h2) boot_allB (blt_all ok.calm)) rfl
      · cases h
    | maxd =>
      unfold chkE at h
      dsimp only at h
      split at h
      · obtain ⟨h1, h2, h3⟩ := and3 h
        have e := of_decide_eq_true h2
        subst e
        cases es with
        | nil => cases h3
        | cons e es =>
          cases es with
          | nil =>
            obtain ⟨_, _, k⟩ := and3 (show (chkE e c _ && !starred _ && chkEs .nil c [_]) = true from h3)
            cases k
          | cons e2 es =>
            obtain ⟨k1, k2, k3⟩ := and3 (show (chkE e c _ && !starred _ && chkEs (.cons e2 es) c [_]) = true from h3)
            obtain ⟨k4, k5, k6⟩ := and3 (show (chkE e2 c _ && !starred _ && chkEs es c []) = true from k3)
            cases es with
            | cons _ _ => cases k6
            | nil => exact Snd.plain (pe_maxd hF ok h1 (sndE hF e ok _ k1).v (sndE hF e2 ok _ k4).v (not_t k2)) rfl
      · cases h
    | lrng =>
      unfold chkE at h
      dsimp only at h
      split at h
      · obtain ⟨h1, h2, h3⟩ := and3 h
        obtain ⟨ex, g1, g2, g3, g4⟩ := bltn_of ok h1
        obtain ⟨ey, j1, j2, j3, j4⟩ := bltn_of ok h2
        subst ex ey
        cases es with
        | nil => cases h3
        | cons e es =>
          obtain ⟨k1, k2, k3⟩ := and3 (show (chkE e c _ && !starred _ && chkEs es c []) = true from h3)
          cases es with
          | cons _ _ => cases k3
          | nil =>
            have A := (sndE hF e ok _ k1).v
            refine Snd.plain (PE.mono (pe_listRg ok.calm g1 g2 (prg_1 j1 j2 A (star_not (not_t k2))) rfl) fun σ H Q q => ?_) rfl
            obtain ⟨m, ρ, S, R, re, q⟩ := q
            refine le_step hF e R re q fun d S1 m1 H1 v q le R1 rd re1 => ?_
            replace q : bLrng [d] S1 (up X.K cl m H Q) := q
            unfold bLrng at q
            split at q
            · rename_i n en
              cases en
              cases rd
              obtain ⟨q1, q2, q3⟩ := q
              refine ⟨n, rfl, ⟨by omega, by omega, by omega, by omega, by omega⟩, fun p np => ?_⟩
              refine q3 _ _ _ (le.trans (le_push np)) (R1.pushL np ?_) (.ref (R1.last p))
              exact rds_rng n
            · exact q.elim
      · cases h
    | isi t =>
      unfold chkE at h
      dsimp only at h
      split at h
      · rename_i xn p y z pos
        obtain ⟨h1, h2, h3⟩ := and3 h
        cases es with
        | nil => cases h2
        | cons e es =>
          cases es with
          | cons _ _ =>
            obtain ⟨_, _, k⟩ := and3 (show (chkE e c y && !starred y && chkEs _ c []) = true from h2)
            cases k
          | nil =>
            obtain ⟨k1, k2, _⟩ := and3 (show (chkE e c y && !starred y && chkEs .nil c []) = true from h2)
            have A := (sndE hF e ok _ k1).v
            have st := not_t k2
            refine Snd.plain ?_ rfl
            unfold tyB at h3
            split at h3
            · exact pe_isi1 hF ok .int rfl h1 A st h3 boot_intT
            · exact pe_isi1 hF ok .bool rfl h1 A st h3 boot_boolT
            · exact pe_isi1 hF ok .str rfl h1 A st h3 boot_strT
            · exact pe_isi1 hF ok .tuple rfl h1 A st h3 boot_tupleT
            · exact pe_isi1 hF ok .list rfl h1 A st h3 boot_listT
            · obtain ⟨g1, g2⟩ := and2 h3
              exact pe_isi2 hF ok h1 A st g1 g2
            · cases h3
      · cases h
  | .bm m o es, c, X, ok, x, h => by
    unfold chkE at h
    split at h
    · rename_i y n p xs q
      obtain ⟨h12345, h6⟩ := and2 h
      obtain ⟨h123, h4, h5⟩ := and3 h12345
      obtain ⟨h1, h2, h3⟩ := and3 h123
      have e := of_decide_eq_true h1
      subst e
      exact Snd.plain (pe_bmD hF ok (sndE hF o ok _ h2).v (sndEs hF es ok _ h3) (chkEs_star h3) (not_t h4) h5 (of_decide_eq_true h6) (chkEs_len h3)) rfl
    · cases h
  | .attr k o f, c, X, ok, x, h => by
    unfold chkE at h
    split at h
    · rename_i y n pos
      obtain ⟨h123, h4⟩ := and2 h
      obtain ⟨h1, h2, h3⟩ := and3 h123
      have e := of_decide_eq_true h1
      subst e
      obtain ⟨q, hq, h5⟩ := List.any_eq_true.mp h4
      obtain ⟨k1, k2⟩ := and2 h5
      obtain ⟨qk, qf⟩ := q
      have e1 := of_decide_eq_true k1
      have e2 := of_decide_eq_true k2
      dsimp only at e1 e2
      subst e1 e2
      obtain ⟨C, hC, hc, hno⟩ := ok.flds _ _ hq
      have A := (sndE hF o ok _ h2).v
      refine Snd.plain (PE.mono (pe_fld A (base_not (not_t h3))) fun σ H Q q => ?_) rfl
      obtain ⟨m, ρ, S, R, re, q⟩ := q
      refine le_step hF o R re q fun d S1 m1 H1 v q le R1 rd re1 => ?_
      split at q
      · rename_i c' fs e
        split at q
        · rename_i w ew
          obtain ⟨ec, q9⟩ := q
          subst ec
          obtain ⟨nn, a, C', dx, gs, rfl, hm, rfl, g, hcl, h1, qk⟩ := rd.ins R1 e
          rw [hC] at hcl
          cases hcl
          rcases qk.lookup qf with ⟨d, v, l1, l2, l3⟩ | ⟨l1, l2⟩
          · rw [l1] at ew
            cases ew
            exact ⟨a, C, dx, gs, v, rfl, h1, hc, hno, l2, q9 m1 H1 v le R1 l3⟩
          · rw [l1] at ew; cases ew
        · exact q.elim
      · exact q.elim
    · cases h
  | .meth k mt f o es, c, X, ok, x, h => by
    unfold chkE at h
    split at h
    · rename_i y n apos xs pos
      obtain ⟨h12345, h6, h7⟩ := and3 h
      obtain ⟨h123, h4, h5⟩ := and3 h12345
      obtain ⟨h1, h2, h3⟩ := and3 h123
      have e := of_decide_eq_true h1
      subst e
      obtain ⟨q, hq, h8⟩ := List.any_eq_true.mp h7
      obtain ⟨k123, k4⟩ := and2 h8
      obtain ⟨k1, k2, k3⟩ := and3 k123
      obtain ⟨qk, qm, qf, qn⟩ := q
      have e1 := of_decide_eq_true k1
      have e2 := of_decide_eq_true k2
      have e3 := of_decide_eq_true k3
      have e4 := of_decide_eq_true k4
      dsimp only at e1 e2 e3 e4
      subst e1 e2 e3
      obtain ⟨C, kk, g, fd, ps, hC, hc, hmt, G, hr, hb⟩ := (ok.mts _ _ _ _ hq).ex
      have O := (sndE hF o ok _ h2).v
      have A := sndEs hF es ok _ h3
      have st := chkEs_star h3
      have hl : xs.length < 30 := by
        have := of_decide_eq_true h6
        omega
      refine Snd.plain ?_ rfl
      have key : ∀ (t : TA), (∀ σ H Q, lA X.K cl F es σ H Q → t σ H Q) → ∀ σ H Q, lE X.K cl F (.meth qk qm qf o es) σ H Q → tMeth C qm (spOf X.K cl F qf qn) [] E0 (lE X.K cl F o) t σ H Q := fun t ht σ H Q w => by
        obtain ⟨m, ρ, S, R, re, w⟩ := w
        refine le_step hF o R re w fun d S1 m1 H1 v w le R1 rd re1 => ?_
        split at w
        · rename_i c' fs e
          obtain ⟨rfl, l0, w⟩ := w
          obtain ⟨nn, a, C', dx, gs, rfl, hm, rfl, g, hcl, h1, qr⟩ := rd.ins R1 e
          rw [hC] at hcl
          cases hcl
          refine ⟨a, dx, gs, rfl, h1, ?_, ht _ _ _ ?_⟩
          · rcases qr.lookup qm with ⟨d, v, l1, l2, l3⟩ | ⟨l1, l2⟩
            · rw [l1] at l0; cases l0
            · exact l2
          · refine la_step hF es R1 re1 (wpEs_len hF es w) fun ds S2 m2 H2 vs w2 le2 R2 rd2 re2 => ?_
            refine ⟨m2, S2, _, R2, .cons (rd.mono le2) (by simpa using rd2), ?_, hF _ _ _ _ _ _ _ (fun _ _ => up_le (le.trans le2)) (fun _ _ z => z) w2.1⟩
            rw [List.append_nil, List.length_cons, ← rd2.length, w2.2, chkEs_len h3, e4]
        · exact w.elim
      cases xs with
      | nil =>
        refine PE.mono (pe_meth0 O hc hmt G hr hb .nil (pass0 (X := X)) (meth_eval (not_t h4) st hl h5)) (key _ fun σ H Q w => ?_)
        cases es with
        | nil => exact nilA w
        | cons _ _ => cases h3
      | cons y ys => exact PE.mono (pe_meth O hc hmt G hr hb .nil pass0 A (star_not (st y List.mem_cons_self)) (star_any fun w hw => st w (List.mem_cons_of_mem _ hw)) (meth_eval (not_t h4) st hl h5)) (key _ fun _ _ _ w => w)
    · cases h
  | .make k f es, c, X, ok, x, h => by
    unfold chkE at h
    split at h
    · rename_i n p xs pos
      obtain ⟨h123, h4⟩ := and2 h
      obtain ⟨h1, h2, h3⟩ := and3 h123
      obtain ⟨q, hq, h5⟩ := List.any_eq_true.mp h4
      obtain ⟨k123, k4⟩ := and2 h5
      obtain ⟨k1, k2, k3⟩ := and3 k123
      obtain ⟨qx, qk, qf, qn⟩ := q
      have e1 := of_decide_eq_true k1
      have e2 := of_decide_eq_true k2
      have e3 := of_decide_eq_true k3
      have e4 := of_decide_eq_true k4
      dsimp only at e1 e2 e3 e4
      subst e1 e2 e3
      obtain ⟨C, kk, g, fd, ps, hC, M, hm, G, hr, hb⟩ := (ok.mks _ _ _ _ hq).ex
      have hg : Gl X qx := (show X.env.scope.names.lookup _ = _ by rw [ok.sc]; exact gl_of h1)
      have A := sndEs hF es ok _ h3
      have st := chkEs_star h3
      refine Snd.plain ?_ rfl
      have key : ∀ (t : TA), (∀ σ H Q, lA X.K cl F es σ H Q → t σ H Q) → ∀ σ H Q, lE X.K cl F (.make qk qf es) σ H Q → tMake C (spOf X.K cl F qf qn) [] E0 t σ H Q := fun t ht σ H Q w => by
        obtain ⟨m, ρ, S, R, re, w⟩ := w
        refine ht _ _ _ (la_step hF es R re (wpEs_len hF es w) fun ds S1 m1 H1 vs w le R1 rd re1 => ?_)
        intro x dx nx ndx hne
        have n1 : (upd H1 dx (.own x)) x = none := by rw [upd_ne (Ne.symm hne)]; exact nx
        have l1 : Le m1 H1 (m1 ++ [x]) (upd (upd H1 dx (.own x)) x (.ins C dx [])) := (le_new ndx).trans (le_push n1)
        have R2 : RS X.K cl (m1 ++ [x]) (upd (upd H1 dx (.own x)) x (.ins C dx [])) (S1 ++ [.ins qk []]) := (R1.new ndx).push n1 ⟨C, dx, [], hC, upd_same, .nil⟩
        refine ⟨m1 ++ [x], S1 ++ [.ins qk []], .ref S1.length :: ds, R2, .cons (.ref (R1.last x)) (by simpa using rd.mono l1), ?_, hF _ _ _ _ _ _ _ (fun d S3 z m3 H3 v le3 R3 rd3 => ?_) (fun _ _ z => z) w.1⟩
        · rw [List.append_nil, List.length_cons, ← rd.length, w.2, chkEs_len h3, e4]
        · obtain ⟨rfl, z⟩ := z
          cases rd3
          exact ⟨rfl, z m3 H3 _ ((le.trans l1).trans le3) R3 (.ref (le3.pre _ _ (R1.last x)))⟩
      cases xs with
      | nil =>
        refine PE.mono (pe_make0 M G hr hg hm hb .nil (pass0 (X := X)) (okN_of h2).1) (key _ fun σ H Q w => ?_)
        cases es with
        | nil => exact nilA w
        | cons _ _ => cases h3
      | cons y ys => exact PE.mono (pe_make M G hr hg hm hb .nil pass0 A (okN_of h2).1 (star_not (st y List.mem_cons_self)) (star_any fun w hw => st w (List.mem_cons_of_mem _ hw))) (key _ fun _ _ _ w => w)
    · cases h
  | .lc own t it cd e, c, X, ok, x, h => by
    unfold chkE at h
    split at h
    · rename_i y tg i fs scope pos
      obtain ⟨h1, h7, h8⟩ := and3 h
      obtain ⟨h1, h5, h6⟩ := and3 h1
      obtain ⟨h1, h3, h4⟩ := and3 (show ((_ && _) && _) = true from h1)
      have B : BlkOk X.N X.env.scope scope (ownP c.N own) := by
        rw [ok.N, ok.sc]
        exact blkOk_by h1
      have hs : ∀ j ∈ t.slots, j ∈ own := fun j hj => by simpa using List.all_eq_true.mp h4 j hj
      have ho : (ownP c.N own).map (·.2) = own := by
        unfold ownP
        rw [List.map_map]
        exact List.map_id' own
      have PI0 := sndIt hF it ok (tg := tg) _ h5
      have key : ∀ {tt : TT}, (∀ σ H Q, tB (lE X.K cl F cd) σ H Q → tt σ H Q) → (∀ (s : Shared) (H : Hp) (C : Addr) (cs : List (Str × Addr)) (fp : List Addr), PTs (X.blk s H scope (compEnvC scope cs C X.env) fp) fs tt) → PE X (.ListComp y [⟨tg, i, fs, 0⟩] scope pos) (lE X.K cl F (.lc own t it cd e)) := fun {tt} ht hp => by
        refine PE.mono (pe_lc ok.calm ok.nd PI0 B (fun s H C cs fp => show PG _ tg (lG X.K cl t) from sndTg (ok.blk s H C cs fp) t _ h3) hp (fun s H C cs fp => show PE _ y (lE X.K cl F e) from (sndE hF e (ok.blk s H C cs fp) _ h7).v) (folded_not (not_t h6))) fun σ H Q w => ?_
        rw [ho]
        exact lc_snd hF hs ht w
      refine Snd.plain ?_ rfl
      split at h8
      · split at h8
        · refine key (tt := tYes) (fun σ H Q w => ?_) fun s H C cs fp => pts_nil
          obtain ⟨m, ρ, S, R, re, w⟩ := w
          obtain ⟨b, eb, w⟩ := up_here (show up X.K cl m H _ (.bl true) S from w) R (.bl true)
          cases eb
          exact w
        · cases h8
      · obtain ⟨h8, h9⟩ := and2 h8
        exact key (fun _ _ _ w => w) fun s H C cs fp => pts_one ((sndE hF cd (ok.blk s H C cs fp) _ h8).t h9)
      · cases h8
    · cases h
  | .dc own t it k e, c, X, ok, x, h => by
    unfold chkE at h
    split at h
    · rename_i z y tg i scope pos
      obtain ⟨h1, h7, h8⟩ := and3 h
      obtain ⟨h1, h5, h6⟩ := and3 h1
      obtain ⟨h1, h3, h4⟩ := and3 (show ((_ && _) && _) = true from h1)
      have B : BlkOk X.N X.env.scope scope (ownP c.N own) := by
        rw [ok.N, ok.sc]
        exact blkOk_by h1
      have hs : ∀ j ∈ t.slots, j ∈ own := fun j hj => by simpa using List.all_eq_true.mp h4 j hj
      have ho : (ownP c.N own).map (·.2) = own := by
        unfold ownP
        rw [List.map_map]
        exact List.map_id' own
      have PI0 := sndIt hF it ok (tg := tg) _ h5
      refine Snd.plain (PE.mono (pe_dc ok.calm ok.nd PI0 B (fun s H C cs fp => show PG _ tg (lG X.K cl t) from sndTg (ok.blk s H C cs fp) t _ h3) (fun s H C cs fp => pts_nil) (fun s H C cs fp => show PE _ z (lE X.K cl F k) from (sndE hF k (ok.blk s H C cs fp) _ h7).v) (fun s H C cs fp => show PE _ y (lE X.K cl F e) from (sndE hF e (ok.blk s H C cs fp) _ h8).v) (folded_not (not_t h6))) fun σ H Q w => ?_) rfl
      rw [ho]
      exact dc_snd hF hs w
    · cases h
theorem sndEs (hF : SemMono F) : ∀ (es : Es) {c : Cxt} {X : Cx} (ok : XOk c cl F X) (xs : List Expr), chkEs es c xs = true → PA X xs (lA X.K cl F es)
  | .nil, c, X, ok, xs, h => by
    cases xs with
    | nil => exact PA.mono pa_nil fun σ H Q ⟨m, ρ, S, R, re, q⟩ => q m H [] (Le.refl m H) R .nil
    | cons _ _ => cases h
  | .cons e es, c, X, ok, xs, h => by
    cases xs with
    | nil => cases h
    | cons x xs =>
      obtain ⟨h1, h2, h3⟩ := and3 (show (chkE e c x && !starred x && chkEs es c xs) = true from h)
      have A := (sndE hF e ok _ h1).v
      have B := sndEs hF es ok _ h3
      refine PA.mono (pa_cons A B (star_not (by simpa using h2))) fun σ H Q q => ?_
      obtain ⟨m, ρ, S, R, re, q⟩ := q
      refine le_step hF e R re q fun d S1 m1 H1 v q le R1 rd re1 => la_step hF es R1 re1 q fun ds S2 m2 H2 vs q2 le2 R2 rd2 re2 => ?_
      exact q2 m2 H2 _ (le.trans le2) R2 (.cons (rd.mono le2) rd2)
theorem sndIt (hF : SemMono F) : ∀ (it : It) {c : Cxt} {X : Cx} (ok : XOk c cl F X) {tg : Expr} (x : Expr), chkIt it c (isTup tg) x = true → PI X tg x (lI X.K cl F it)
  | .seq e, c, X, ok, tg, x, h => by
    refine PI.mono (pi_seq (sndE hF e ok _ h).v) fun σ H R q => ?_
    obtain ⟨m, ρ, S, RR, re, q⟩ := q
    refine le_step hF e RR re q fun d S1 m1 H1 v q le R1 rd re1 => ?_
    have key : ∀ {l : List D} {G : Store → Prop}, ((d = .tup l ∧ G = fun _ => True) ∨ (d = .fl l ∧ G = fun _ => True) ∨ ∃ n, d = .ref n ∧ lst? S1 n = some l ∧ G = fun S => lst? S n = some l) →
        (∀ m' H' J, Le m H m' H' → RS X.K cl m' H' S1 → Walks X.K cl m' H' J l G → R J H') → ∀ {a : Addr}, v = .ref a → ∃ a, v = .ref a ∧ (((∃ xs, SqL X.K H1 a xs) ∧ R (Itl X.K a) H1) ∨ ((∃ xs, SqT X.K H1 a xs) ∧ R (Itt X.K a) H1)) := by
      intro l G hd k a ev
      subst ev
      refine ⟨a, rfl, ?_⟩
      rcases walks_seq R1 rd hd with ⟨h1, h2⟩ | ⟨h1, h2⟩
      · exact .inl ⟨h1, k _ _ _ le R1 h2⟩
      · exact .inr ⟨h1, k _ _ _ le R1 h2⟩
    unfold itSeq at q
    split at q
    · cases rd with
      | tup ht qt => exact key (.inl ⟨rfl, rfl⟩) q rfl
    · cases rd with
      | fl ht qt => exact key (.inr (.inl ⟨rfl, rfl⟩)) q rfl
    · split at q
      · rename_i l e
        cases rd with
        | ref hm => exact key (.inr (.inr ⟨_, rfl, e, rfl⟩)) q rfl
      · exact q.elim
    · exact q.elim
  | .rng a b, c, X, ok, tg, x, h => by
    unfold chkIt at h
    split at h
    · obtain ⟨h123, h4⟩ := and2 h
      obtain ⟨h1, h2, h3⟩ := and3 h123
      obtain ⟨ex, g1, g2, g3, g4⟩ := bltn_of ok h1
      subst ex
      split at h2
      · have B := (sndE hF b ok _ h3).v
        refine PI.mono (pi_range1 g1 g2 (pa_cons B pa_nil (star_not (not_t h4))) (star_not (not_t h4))) fun σ H R q => ?_
        obtain ⟨m, ρ, S, RR, re, q⟩ := q
        refine le_step hF b RR re (show wpE F b ρ S _ noX from q) fun d S1 m1 H1 v q le R1 rd re1 => ?_
        cases d with
        | int j =>
          obtain rfl := int_of rd
          obtain ⟨q1, q2, q3, q4, q5⟩ := q
          refine ⟨j, rfl, by omega, by omega, ?_⟩
          have w := walks_rng (cl := cl) (K := X.K) (m1 := m1) (H1 := H1) 0 j
          rw [Int.sub_zero] at w
          exact q5 m1 H1 _ le R1 w
        | _ => exact (show False from q).elim
      · cases h2
    · obtain ⟨h123, h4, h5⟩ := and3 h
      obtain ⟨h1, h2, h3⟩ := and3 h123
      obtain ⟨ex, g1, g2, g3, g4⟩ := bltn_of ok h1
      subst ex
      have A := (sndE hF a ok _ h2).v
      have B := (sndE hF b ok _ h4).v
      refine PI.mono (pi_range2 g1 g2 (pa_cons A (pa_cons B pa_nil (star_not (not_t h5))) (star_not (not_t h3))) (by rw [star_not (not_t h3), star_not (not_t h5)]; rfl) (star_not (not_t h5))) fun σ H R q => ?_
      obtain ⟨m, ρ, S, RR, re, q⟩ := q
      refine le_step hF a RR re q fun d S1 m1 H1 v q le R1 rd re1 => le_step hF b R1 re1 q fun d2 S2 m2 H2 v2 q2 le2 R2 rd2 re2 => ?_
      split at q2
      · cases rd
        cases rd2
        obtain ⟨q1, q2, q3, q4, q5⟩ := q2
        exact ⟨_, _, rfl, ⟨by omega, by omega, by omega, by omega⟩, q5 m2 H2 _ (le.trans le2) R2 (walks_rng _ _)⟩
      · exact q2.elim
    · cases h
  | .rngd a b, c, X, ok, tg, x, h => by
    unfold chkIt at h
    split at h
    · rename_i r p y z k kk p1 p2 pos
      obtain ⟨h1234, h5, h6⟩ := and3 h
      obtain ⟨h12, h3, h4⟩ := and3 h1234
      obtain ⟨h1, h2⟩ := and2 h12
      obtain ⟨ex, g1, g2, g3, g4⟩ := bltn_of ok h1
      have e := of_decide_eq_true h2
      subst ex e
      have A := (sndE hF a ok _ h3).v
      have B := (sndE hF b ok _ h5).v
      have sn : starred (.UnaryOp .USub (.Constant (.int 1) kk p1) p2) = false := rfl
      refine PI.mono (pi_range3 g1 g2 (pa_cons A (pa_cons B (pa_cons (pe_un un_neg pe_int) pa_nil (star_not sn)) (star_not (not_t h6))) (star_not (not_t h4))) (star_not (not_t h4)) (star_any fun w hw => ?_)) fun σ H R q => ?_
      · rcases List.mem_cons.mp hw with rfl | hw
        · exact not_t h6
        · rw [List.mem_singleton.mp hw]; rfl
      · obtain ⟨m, ρ, S, RR, re, q⟩ := q
        refine le_step hF a RR re q fun d S1 m1 H1 v q le R1 rd re1 => le_step hF b R1 re1 q fun d2 S2 m2 H2 v2 q2 le2 R2 rd2 re2 => ?_
        refine ⟨1, rfl, ?_⟩
        split at q2
        · cases rd
          cases rd2
          obtain ⟨q1, q2, q3, q4, q5⟩ := q2
          exact ⟨_, _, -1, _, rfl, RgC.neg (by omega) (by omega) (by omega) (by omega), q5 m2 H2 _ (le.trans le2) R2 (walks_rngd _ _)⟩
        · exact q2.elim
    · cases h
  | .rng2 a b, c, X, ok, tg, x, h => by
    unfold chkIt at h
    split at h
    · rename_i r p y z k kk p1 pos
      obtain ⟨h1234, h5, h6⟩ := and3 h
      obtain ⟨h12, h3, h4⟩ := and3 h1234
      obtain ⟨h1, h2⟩ := and2 h12
      obtain ⟨ex, g1, g2, g3, g4⟩ := bltn_of ok h1
      have e := of_decide_eq_true h2
      subst ex e
      have A := (sndE hF a ok _ h3).v
      have B := (sndE hF b ok _ h5).v
      have sn : starred (.Constant (.int 2) kk p1) = false := rfl
      refine PI.mono (pi_range3 g1 g2 (pa_cons A (pa_cons B (pa_cons pe_int pa_nil (star_not sn)) (star_not (not_t h6))) (star_not (not_t h4))) (star_not (not_t h4)) (star_any fun w hw => ?_)) fun σ H R q => ?_
      · rcases List.mem_cons.mp hw with rfl | hw
        · exact not_t h6
        · rw [List.mem_singleton.mp hw]; rfl
      · obtain ⟨m, ρ, S, RR, re, q⟩ := q
        refine le_step hF a RR re q fun d S1 m1 H1 v q le R1 rd re1 => le_step hF b R1 re1 q fun d2 S2 m2 H2 v2 q2 le2 R2 rd2 re2 => ?_
        split at q2
        · cases rd
          cases rd2
          obtain ⟨q1, q2, q3, q4, q5⟩ := q2
          exact ⟨_, _, 2, _, rfl, rg2 (by omega) (by omega) (by omega) (by omega), q5 m2 H2 _ (le.trans le2) R2 (walks_rng2 _ _)⟩
        · exact q2.elim
    · cases h
  | .enum e, c, X, ok, tg, x, h => by
    unfold chkIt at h
    split at h
    · obtain ⟨h123, h4⟩ := and2 h
      obtain ⟨h1, h2, h3⟩ := and3 h123
      obtain ⟨ex, g1, g2, g3, g4⟩ := bltn_of ok h1
      subst ex
      have A := (sndE hF e ok _ h3).v
      cases tg with
      | Tuple elts kk tpos =>
        refine PI.mono (pi_enums g1 g2 (pa_cons A pa_nil (star_not (not_t h4))) (star_not (not_t h4))) fun σ H R q => ?_
        obtain ⟨m, ρ, S, RR, re, q⟩ := q
        refine le_step hF e RR re q fun d S1 m1 H1 v q le R1 rd re1 => ?_
        have key : ∀ {l : List D} {G : Store → Prop}, ((d = .tup l ∧ G = fun _ => True) ∨ (d = .fl l ∧ G = fun _ => True) ∨ ∃ n, d = .ref n ∧ lst? S1 n = some l ∧ G = fun S => lst? S n = some l) →
            (∀ m' H' J, Le m H m' H' → RS X.K cl m' H' S1 → Walks X.K cl m' H' J (enumL l) G → R J H') → ∀ {a : Addr}, v = .ref a → ∃ a, [v] = [.ref a] ∧ (((∃ xs, SqL X.K H1 a xs) ∧ R (Ite X.K a) H1) ∨ ((∃ xs, SqT X.K H1 a xs) ∧ R (Iet X.K a) H1)) := by
          intro l G hd k a ev
          subst ev
          refine ⟨a, rfl, ?_⟩
          rcases walks_enum R1 rd hd with ⟨h1, h2⟩ | ⟨h1, h2⟩
          · exact .inl ⟨h1, k _ _ _ le R1 h2⟩
          · exact .inr ⟨h1, k _ _ _ le R1 h2⟩
        unfold itSeq at q
        split at q
        · cases rd with
          | tup ht qt => exact key (.inl ⟨rfl, rfl⟩) q rfl
        · cases rd with
          | fl ht qt => exact key (.inr (.inl ⟨rfl, rfl⟩)) q rfl
        · split at q
          · rename_i l e
            cases rd with
            | ref hm => exact key (.inr (.inr ⟨_, rfl, e, rfl⟩)) q rfl
          · exact q.elim
        · exact q.elim
      | _ => cases h2
    · cases h
  | .keys e, c, X, ok, tg, x, h => by
    refine PI.mono (pi_keysF (sndE hF e ok _ h).v) fun σ H R q => ?_
    obtain ⟨m, ρ, S, RR, re, q⟩ := q
    refine le_step hF e RR re q fun d S1 m1 H1 v q le R1 rd re1 => ?_
    split at q
    · rename_i n
      split at q
      · rename_i kvs g
        cases rd with
        | ref hm =>
          obtain ⟨l, h1, qk⟩ := R1.at_ _ _ _ hm g
          refine ⟨_, l, rfl, h1, fun o => ?_⟩
          have l2 : Le m1 H1 m1 (upd H1 _ (.frz o (.dK l))) := le_set h1 trivial
          exact q m1 _ _ (le.trans l2) (R1.set hm h1 trivial ⟨o, l, upd_same, qk.mono l2⟩) (walks_keys hm upd_same (qk.mono l2))
      · exact q.elim
    · exact q.elim
end
end
end Mn

/-! a, *b = a tuple. -/
namespace Mn
open PySem PySem.Spec PyProof.Rows L2
/-- a tuple's iterator that has gone k steps -/
theorem walks_tail {prog : Program} {w : World} {A : Around} (hh : A.handled = none) (I ax : Addr) (hne : ax ≠ I) (items : Array Value) (k : Nat) (hk : k ≤ items.size) :
    PySem.Walks prog w A I [I, ax] [I] (items.size - k) (fun i v => items[i + k]? = some v) (fun i h => h.IsTupleIter I ax (i + k) ∧ h.IsTuple ax items) where
  sub := fun b hb => by simp at hb; simp [hb]
  frame := fun _ _ _ st hk => ⟨st.1.at fun o e => hk I (by simp) o e, st.2.at fun o e => hk ax (by simp) o e⟩
  item := fun i s Q E hi st hQ => by
    have h1 : i + k < items.size := by omega
    refine wpAny_pyNext_tuple_item st.1 st.2 (x := items[i + k]) (by simp [h1]) fun h' hit' hs' => ?_
    refine hQ _ h' s.toks (by simp [h1]) ⟨?_, st.2.extBut hs'.extBut hne⟩ fun b o hb e => hs'.extBut b o (fun h => hb (by simp [h])) e
    rw [show i + 1 + k = i + k + 1 by omega]
    exact hit'
  done := fun s Q E st hQ => wpAny_pyNext_tuple_end hh st.1 st.2 (by rw [Array.getElem?_eq_none]; omega) fun h' he' => hQ h' s.toks fun b o hb e => he' b o (fun h => hb (by simp [h])) e
  self := fun _ _ _ _ st hQ => wpAny_pyIter_tupleiter st.1 hQ
section
variable {X : Cx}
def gStar (K : Fg) (i j : Nat) : TG := fun v σ H Q => ∃ a w ws, v = .ref a ∧ SqT K H a (w :: ws) ∧ ∀ p, H p = none → Q ((σ.set i (some w)).set j (some (.ref p))) (upd H p (.lst ws))
theorem pg_star {i j : Nat} {x y : Str} {px py sp pos : Pos} {kk : Nat} (hc : X.calm = true) (hN : X.N.Nodup) (hi : X.N[i]? = some x) (hj : X.N[j]? = some y) (hx : Loc X.env.scope x) (hy : Loc X.env.scope y) (fx : X.fn x = true ∨ X.env.scope.names.lookup x = some .local) (fy : X.fn y = true ∨ X.env.scope.names.lookup y = some .local) :
    PG X (.Tuple [.Name x px, .Starred (.Name y py) sp] kk pos) (gStar X.K i j) := by
  refine ⟨fun pins s σ H v u Q I r hw => ?_⟩
  obtain ⟨a, w, ws, e1, hq, hw⟩ := hw
  subst e1
  cases r
  obtain ⟨its, rv, ht, hz⟩ := I.tuple hq
  cases rv with
  | @cons _ u0 _ us rw0 rws =>
    have hp : s.heap.IsTuple a (u0 :: us).toArray := ht
    have hne : a ≠ s.heap.objs.size := by
      obtain ⟨o, ho, _⟩ := hp
      exact Nat.ne_of_lt (Heap.lt_size ho)
    have hus : us.length ≤ sizeLine := by
      have h1 : (w :: ws).length ≤ sizeLine := hz
      have h2 := rws.length
      rw [List.length_cons] at h1
      omega
    rw [assign_Tuple]
    refine wpAny_bind (wpAny_standAt ?_)
    show wpAny _ _ (unpack (.ref a) [(false, assign (.Name x px) X.env), (true, assign (.Name y py) X.env)]) _ _ _
    unfold unpack
    refine wpAny_bind (wpAny_holding ?_)
    show wpAny _ _ (unpackItems (.ref a) 2 (some 1)) _ _ _
    unfold unpackItems
    refine wpAny_bind ?_
    unfold notIterableAtAll
    refine wpAny_bind (wpAny_specialOf ht.typeIs PySem.F.slot_tuple_iter.lookup ?_)
    refine wpAny_pure ?_
    simp only [Bool.false_eq_true, if_false]
    refine wpAny_bind (wpAny_holding (wpAny_pyIter_tuple hp ?_))
    have hp1 : (s.heap.push { cls := .type "tuple_iterator", data := .fields #[.ref a, .int 0 0] }).IsTuple a (u0 :: us).toArray := hp.at fun o e => Heap.get?_push_of_some _ e
    refine wpAny_bind (wpAny_holding (wpAny_draw_tuple hne 1 0 _ _ ⟨_, Heap.get?_push_size _ rfl, rfl, rfl⟩ hp1 (by simp) fun h1 hit1 hs1 => ?_))
    have efirst : List.take 1 (List.drop 0 (u0 :: us).toArray.toList) = [u0] := by simp
    rw [efirst, if_neg (by simp)]
    have hp2 : h1.IsTuple a (u0 :: us).toArray := hp1.extBut hs1.extBut hne
    have hlt : ∀ b ∈ [s.heap.objs.size, a], b < h1.objs.size := fun b hb => by
      have e : b = s.heap.objs.size ∨ b = a := by simpa using hb
      rcases e with e | e
      · rw [e]
        obtain ⟨o, ho, _⟩ := hit1
        exact Heap.lt_size ho
      · rw [e]
        obtain ⟨o, ho, _⟩ := hp2
        exact Heap.lt_size ho
    refine wpAny_bind (wpAny_holding (wpAny_collect_iter (T := "tuple_iterator") (s := { s with heap := h1 }) (.inr (.inr (.inr rfl))) (Walks.toS (walks_tail (A := X.A.in1) (I.ok.hd hc) s.heap.objs.size a hne (u0 :: us).toArray 1 (by simp))) (fun i s st => st.1.typeIs) ⟨hit1, hp2⟩ hlt (by simp) (fun s' acc mv it => ?_) ?_))
    · have eacc : acc.toList = us := by
        refine List.ext_getElem? fun k => ?_
        have hs : acc.size = us.length := by simpa using it.1
        by_cases hk : k < us.length
        · have h2 : acc[k]? = some acc[k] := by simp [hs, hk]
          have h3 := it.2 k _ h2
          have h4 : us[k]? = some acc[k] := by simpa using h3
          rw [h4]
          simpa using h2
        · rw [List.getElem?_eq_none (by simp [hs]; omega), List.getElem?_eq_none (by omega)]
      rw [eacc]
      have e0 : ¬ us.length < 2 - 1 - 1 := by omega
      rw [if_neg e0]
      have e3 : us.length - (2 - 1 - 1) = us.length := by omega
      rw [e3, List.take_length, List.drop_length]
      have hk1 : ∀ b o, s.heap.get? b = some o → s'.heap.get? b = some o := fun b o e => by
        have hb : b ≠ s.heap.objs.size := Nat.ne_of_lt (Heap.lt_size e)
        refine mv.heap b o (by simpa using hb) ?_
        exact hs1.extBut b o hb (Heap.get?_push_of_some _ e)
      obtain ⟨hh, g, d, t, os⟩ := s'
      obtain rfl : g = s.gens := mv.gens
      obtain rfl : d = s.drawn := mv.drawn
      obtain rfl : os = s.os := mv.os
      have I1 : Inv X pins σ H { s with heap := hh, toks := t } := I.kept hk1
      refine wpAny_bind (wpAny_newObj_type ?_ ?_)
      · have hn : H hh.objs.size = none := I1.hok.fresh (Nat.le_refl _)
        have hlw : ws.length ≤ sizeLine := by
          have : (w :: ws).length ≤ sizeLine := hz
          simp at this
          omega
        have I2 : Inv X pins σ (upd H hh.objs.size (.lst ws)) { s with heap := hh.push { cls := .type "list", data := .seq us.toArray }, toks := t } := I1.laid (t' := t) (fun b o e => Heap.get?_push_of_some _ e) (Nat.le_refl _) ⟨hlw, us, 0, rws, Heap.get?_push_size _ rfl⟩
        refine wpAny_pure ?_
        show wpAny _ _ (assignInOrder [assign (.Name x px) X.env, assign (.Name y py) X.env] [u0, .ref hh.objs.size]) _ _ _
        refine assignInOrder_cons (wpAny_assign_Name (store_ok I2 hN hi hx rw0 (fun s2 I4 => ?_) fx))
        refine assignInOrder_cons (wpAny_assign_Name (store_ok (v := V.ref hh.objs.size) I4 hN hj hy rfl (fun s3 I5 => assignInOrder_nil ⟨_, _, I5, hw _ hn⟩) fy))
      · first | exact hus | simpa using hus | (show us.length ≤ sizeLine; exact hus)
    · first | exact hus | simpa using hus
end
end Mn

/-! Statements: the check, and that what is checked does what the small language says. -/
namespace Mn
open PySem PySem.Spec PyProof.Rows L2
def isTupX : Expr → Option (List Expr)
  | .Tuple es _ _ => some es
  | _ => none
/-- no stores are swapped -/
def noSwap (v : Expr) : Bool := match isTupX v with
  | some es => es.all (foldedForSure 8)
  | none => true
/-- does a comprehension's value go into the name ahead of the block's end -/
def usedB (sc scope : Scope) (y : Str) (py pos : Pos) : Bool :=
  (match sc.names.lookup y with | some .local => true | _ => false) && (py.line == pos.line) && !(scope.names.any fun (n, k) => n == y && (k == .local || k == .cell))
def fnB (sc : Scope) : Bool := match sc.kind with | .function => true | _ => false
mutual
def chkC (c : Cxt) : C → Stmt → Bool
  | .bad, _ => true
  | .raise _, _ => true
  | .pass, s => (match s with | .Pass _ => true | _ => false)
  | .set i e, s => (match s with
    | .Assign [.Name x _] v _ => decide (c.N[i]? = some x) && locB c.sc x && fnB c.sc && chkE e c v
    | _ => false)
  | .asg t e, s => (match s with
    | .Assign [.Tuple xs k p] v _ => chkTg c t (.Tuple xs k p) && chkE e c v && !isComp v && noSwap v
    | _ => false)
  | .par i j a b, s => (match s with
    | .Assign [.Tuple [.Name x px, .Name y py] _ _] (.Tuple [u, w] _ _) _ => decide (c.N[i]? = some x) && decide (c.N[j]? = some y) && decide (i ≠ j) && decide (x ≠ y) && decide (c.sc.names.lookup x = some .local) && decide (c.sc.names.lookup y = some .local)
      && (px.line == py.line) && fnB c.sc && !starred u && !starred w && !(foldedForSure 8 u && foldedForSure 8 w) && !(constantsAlone 8 u && constantsAlone 8 w) && chkE a c u && chkE b c w
    | _ => false)
  | .star i j e, s => (match s with
    | .Assign [.Tuple [.Name x _, .Starred (.Name y _) _] _ _] v _ => decide (c.N[i]? = some x) && decide (c.N[j]? = some y) && locB c.sc x && locB c.sc y && chkE e c v && !isComp v && noSwap v
    | _ => false)
  | .unp i j e, s => (match s with
    | .Assign [.Tuple [.Name x _, .Name y _] _ _] v _ => decide (c.N[i]? = some x) && decide (c.N[j]? = some y) && locB c.sc x && locB c.sc y && chkE e c v && !isComp v && noSwap v
    | _ => false)
  | .setIx o i e, s => (match s with
    | .Assign [.Subscript x y _] v _ => chkE o c x && chkE i c y && chkE e c v && !isSlice y && !isComp v
    | _ => false)
  | .setA k o f e, s => (match s with
    | .Assign [.Attribute y n _] v _ => decide (n = f) && chkE o c y && chkE e c v && c.flds.any fun p => decide (p.1 = k) && decide (p.2 = f)
    | _ => false)
  | .aug i op e, s => (match s with
    | .AugAssign (.Name x _) op' v _ => decide (c.N[i]? = some x) && locB c.sc x && decide (op = op') && chkE e c v
    | _ => false)
  | .augA k o f op e, s => (match s with
    | .AugAssign (.Attribute y n _) op' v _ => decide (n = f) && decide (op = op') && chkE o c y && chkE e c v && c.flds.any fun p => decide (p.1 = k) && decide (p.2 = f)
    | _ => false)
  | .augX _ _ _ _, _ => false
  | .ret e, s => (match s with
    | .Return (some x) _ => chkE e c x
    | .Return none _ => (match e with | .no => true | _ => false)
    | _ => false)
  | .ex e, s => (match s with
    | .Expr x _ => chkE e c x && !isComp x
    | _ => false)
  | .cond t a b, s => (match s with
    | .If x ys zs _ => chkE t c x && tOk t && chkCs c a ys && chkCs c b zs
    | _ => false)
  | .whl t b, s => (match s with
    | .While x ys [] _ => chkE t c x && tOk t && chkCs c b ys
    | _ => false)
  | .for_ t it b, s => (match s with
    | .For tg x ys [] _ => chkTg c t tg && chkIt it c (isTup tg) x && chkCs c b ys && !isSet x
    | _ => false)
def chkCs (c : Cxt) : Cs → List Stmt → Bool
  | .nil, ss => ss.isEmpty
  | .cons a b, ss => (match ss with
    | s :: ss => chkC c a s && chkCs c b ss
    | [] => false)
end
/-! ### readings -/
def upE (K : Fg) (cl : Cl) (m0 : List Addr) (H0 : Hp) (D : L2.Ends) : Ends where
  nx := fun ρ S => ∀ m σ H, Le m0 H0 m H → RS K cl m H S → RE K m H ρ σ → D.nx σ H
  rt := up K cl m0 H0 D.rt
  bk := fun ρ S => ∀ m σ H, Le m0 H0 m H → RS K cl m H S → RE K m H ρ σ → D.bk σ H
  ct := fun ρ S => ∀ m σ H, Le m0 H0 m H → RS K cl m H S → RE K m H ρ σ → D.ct σ H
  xc := noX
def LS (K : Fg) (cl : Cl) (t : Ends → Env → Store → Prop) : TS := fun D σ H => ∃ m ρ S, RS K cl m H S ∧ RE K m H ρ σ ∧ t (upE K cl m H D) ρ S
theorem upE_le {K : Fg} {cl : Cl} {m m1 : List Addr} {H H1 : Hp} {D : L2.Ends} (x : Le m H m1 H1) : Ends.le (upE K cl m H D) (upE K cl m1 H1 D) :=
  ⟨fun ρ S h m' σ' H' le => h m' σ' H' (x.trans le), fun d S => up_le x, fun ρ S h m' σ' H' le => h m' σ' H' (x.trans le), fun ρ S h m' σ' H' le => h m' σ' H' (x.trans le), fun _ _ z => z⟩
theorem PS.mono {X : Cx} {st : Stmt} {t t' : TS} (h : PS X st t) (k : ∀ D σ H, t' D σ H → t D σ H) : PS X st t' := ⟨fun pins s σ H D I q => h.run pins s σ H D I (k D σ H q)⟩
theorem PSs.mono {X : Cx} {st : List Stmt} {t t' : TS} (h : PSs X st t) (k : ∀ D σ H, t' D σ H → t D σ H) : PSs X st t' := ⟨fun pins s σ H D I q => h.run pins s σ H D I (k D σ H q)⟩
theorem swaps_not {v : Expr} {t : Option Expr} {l : Nat} {env : PySem.Env} (h : isComp v = false) : swapsWith v t l env = pure false := by
  cases v <;> first | rfl | cases h
theorem sole_not {v t : Expr} {l : Nat} {env : PySem.Env} (h : isComp v = false) : swapsWithSole [t] v l env = pure false := swaps_not h
section
variable {c : Cxt} {cl : Cl} {F : Sem} {X : Cx}
/-- what a statement's context must bear besides -/
structure SOk (c : Cxt) (cl : Cl) (F : Sem) (X : Cx) : Prop where
  x : XOk c cl F X
  blk : c.blk = false
  xe : X.xe = fun _ _ => False
theorem SOk.own (ok : SOk c cl F X) : PassesOwn (model X.prog X.w) X.A X.env X.xe := by
  rw [ok.xe]
  exact PassesOwn.never
/-! ### statements -/
def rSet (K : Fg) (cl : Cl) : TSet := fun o i v H Q => ∃ m S d1 d2 d3, RS K cl m H S ∧ RD K m H d1 o ∧ RD K m H d2 i ∧ RD K m H d3 v ∧ setIx d1 d2 d3 S fun S' => ∀ H', Le m H m H' → RS K cl m H' S' → Q H'
theorem set_snd (hu : X.A.units + 150 < cLine) : PSet X (rSet X.K cl) := by
  intro pins s σ H o i v ov iv u Q I ro ri rv ⟨m, S, d1, d2, d3, R, r1, r2, r3, h⟩
  unfold setIx at h
  split at h
  · split at h
    · rename_i n l g
      split at h
      · split at h
        · rename_i j ej
          cases r2
          cases r1 with
          | ref hm =>
            obtain ⟨vs, h1, q⟩ := R.at_ _ _ _ hm g
            refine set_list pins s σ H _ _ v ov iv u Q I ro ri rv ⟨_, vs, _, j, rfl, rfl, h1, by rw [← q.length]; exact ej, ?_⟩
            refine h _ (le_set h1 trivial) (R.set hm h1 trivial ⟨_, upd_same, ?_⟩)
            exact (q.set r3 j).mono (le_set h1 trivial)
        · exact h.elim
      · exact h.elim
    · rename_i n kvs g
      split at h
      · rename_i k ek
        cases r1 with
        | ref hm =>
          obtain ⟨l, h1, q⟩ := R.at_ _ _ _ hm g
          have ey := key_of_rd r2 ek
          subst ey
          cases ro
          have hl := lim_le
          have := q.length
          have := h.1
          refine d_setItem (by omega) I (DPut.k h1 (by omega)) ri rv fun s' I' => ⟨_, I', ?_⟩
          exact h.2 _ (le_set h1 trivial) (R.set hm h1 trivial ⟨_, upd_same, (q.put r3).mono (le_set h1 trivial)⟩)
      · exact h.elim
    · exact h.elim
  · exact h.elim
theorem assign_sub {o i : Expr} {pos : Pos} {env : PySem.Env} (h : isSlice i = false) : ∀ v, assign (.Subscript o i pos) env v = (do
      let ov ← holding [v] (eval o env)
      let iv ← holding [v, ov] (eval i env)
      standAt pos
      holding [v, ov, iv] (setItem ov iv v)
      release [v, ov, iv] []) := by
  intro v
  cases i <;> first | rfl | cases h
theorem for_snd {D : L2.Ends} {it : It} {t : Tg} {b : Cs} {tb : TS} {σ : L2.St} {H : Hp} (hF : SemMono F) (hb : ∀ D σ H, LS X.K cl (wpCs F b) D σ H → tb D σ H) (h : LS X.K cl (wpC F (.for_ t it b)) D σ H) :
    tFor (lI X.K cl F it) (lG X.K cl t) tb D σ H := by
  obtain ⟨m, ρ, S, R, re, q⟩ := h
  replace q : wpIt F it ρ S (fun l G S1 => wpFor t G (wpCs F b) (upE X.K cl m H D) l ρ S1) noX := q
  refine ⟨m, ρ, S, R, re, wpIt_mono hF it (fun l G S1 q1 m1 H1 J le1 R1 wk => ?_) (fun _ _ z => z) q⟩
  refine ⟨fun i n σ' H' => ∃ m' ρ' S', Le m1 H1 m' H' ∧ RS X.K cl m' H' S' ∧ RE X.K m' H' ρ' σ' ∧ n = (l.drop i).length ∧ wpFor t G (wpCs F b) (upE X.K cl m H D) (l.drop i) ρ' S',
    ⟨_, m1, ρ, S1, Le.refl m1 H1, R1, re.mono le1, rfl, q1⟩, fun i n σ' H' hW => ?_⟩
  obtain ⟨m', ρ', S', le', R', re', en, q'⟩ := hW
  by_cases hi : i < l.length
  · have ed : l.drop i = l[i] :: l.drop (i + 1) := List.drop_eq_getElem_cons hi
    rw [ed] at q' en
    obtain ⟨g, q2⟩ := q'
    obtain ⟨go, yld⟩ := wk.2 m' H' S' i l[i] le' R' g (List.getElem?_eq_getElem hi)
    refine .inr ⟨go, fun σ2 H2 => ∃ m' ρ' S', Le m1 H1 m' H2 ∧ RS X.K cl m' H2 S' ∧ RE X.K m' H2 ρ' σ2 ∧ wpFor t G (wpCs F b) (upE X.K cl m H D) (l.drop (i + 1)) ρ' S', fun σ2 H2 hN => ?_, fun x H2 hx => ?_⟩
    · obtain ⟨m2, ρ2, S2, a1, a2, a3, a4⟩ := hN
      refine ⟨_, ?_, m2, ρ2, S2, a1, a2, a3, rfl, a4⟩
      rw [en, List.length_cons]
      omega
    · obtain ⟨m2, le2, R2, rd⟩ := yld x H2 hx
      split at q2
      · rename_i ρ2 e2
        refine lG_go R2 (re'.mono le2) rd e2 fun m3 H3 σ3 le3 R3 re3 _ => hb _ _ _ ?_
        have l13 : Le m1 H1 m3 H3 := (le'.trans le2).trans le3
        have l3 : Le m H m3 H3 := le1.trans l13
        refine ⟨m3, ρ2, S', R3, re3, wpCs_mono hF b (K := { upE X.K cl m H D with nx := wpFor t G (wpCs F b) (upE X.K cl m H D) (l.drop (i + 1)), ct := wpFor t G (wpCs F b) (upE X.K cl m H D) (l.drop (i + 1)), bk := (upE X.K cl m H D).nx }) ⟨?_, ?_, ?_, ?_, ?_⟩ q2⟩
        · exact fun ρ4 S4 h4 m4 σ4 H4 le4 R4 re4 => ⟨m4, ρ4, S4, l13.trans le4, R4, re4, h4⟩
        · exact fun d S4 => up_le l3
        · exact fun ρ4 S4 h4 m4 σ4 H4 le4 R4 re4 => h4 m4 σ4 H4 (l3.trans le4) R4 re4
        · exact fun ρ4 S4 h4 m4 σ4 H4 le4 R4 re4 => ⟨m4, ρ4, S4, l13.trans le4, R4, re4, h4⟩
        · exact fun _ _ z => z
      · exact q2.elim
  · refine .inl ⟨?_, ?_⟩
    · rw [List.drop_eq_nil_of_le (by omega)] at q'
      exact wk.1 m' H' S' i le' R' q'.1 (by omega)
    · rw [List.drop_eq_nil_of_le (by omega)] at q'
      exact q'.2 m' σ' H' (le1.trans le') R' re'
theorem whl_snd {D : L2.Ends} {t : E} {b : Cs} {tb : TS} {σ : L2.St} {H : Hp} (hF : SemMono F) (hb : ∀ D σ H, LS X.K cl (wpCs F b) D σ H → tb D σ H) (h : LS X.K cl (wpC F (.whl t b)) D σ H) :
    tWhile (tB (lE X.K cl F t)) tb D σ H := by
  obtain ⟨m, ρ, S, R, re, k, q⟩ := h
  refine ⟨fun n σ' H' => ∃ m' ρ' S', Le m H m' H' ∧ RS X.K cl m' H' S' ∧ RE X.K m' H' ρ' σ' ∧ wpWh (fun ρ S Q => wpE F t ρ S Q noX) (wpCs F b) (upE X.K cl m H D) n ρ' S', ⟨k, m, ρ, S, Le.refl m H, R, re, q⟩, fun n σ' H' hW => ?_⟩
  obtain ⟨m', ρ', S', le', R', re', q'⟩ := hW
  cases n with
  | zero => exact (show False from q').elim
  | succ n =>
    replace q' : wpE F t ρ' S' _ noX := q'
    refine le_step hF t R' re' q' fun d S1 m1 H1 v q le R1 rd re1 => ?_
    have l1 : Le m H m1 H1 := le'.trans le
    split at q
    · refine ⟨true, bl_of rd, (if_pos rfl).mpr ⟨fun σ2 H2 => ∃ m' ρ' S', Le m H m' H2 ∧ RS X.K cl m' H2 S' ∧ RE X.K m' H2 ρ' σ2 ∧ wpWh (fun ρ S Q => wpE F t ρ S Q noX) (wpCs F b) (upE X.K cl m H D) n ρ' S', fun σ2 H2 hN => ⟨n, Nat.lt_succ_self n, hN⟩, hb _ _ _ ?_⟩⟩
      refine ⟨m1, ρ', S1, R1, re1, wpCs_mono hF b (K := { upE X.K cl m H D with nx := wpWh (fun ρ S Q => wpE F t ρ S Q noX) (wpCs F b) (upE X.K cl m H D) n, ct := wpWh (fun ρ S Q => wpE F t ρ S Q noX) (wpCs F b) (upE X.K cl m H D) n, bk := (upE X.K cl m H D).nx }) ⟨?_, ?_, ?_, ?_, ?_⟩ q⟩
      · exact fun ρ4 S4 h4 m4 σ4 H4 le4 R4 re4 => ⟨m4, ρ4, S4, l1.trans le4, R4, re4, h4⟩
      · exact fun d S4 => up_le l1
      · exact fun ρ4 S4 h4 m4 σ4 H4 le4 R4 re4 => h4 m4 σ4 H4 (l1.trans le4) R4 re4
      · exact fun ρ4 S4 h4 m4 σ4 H4 le4 R4 re4 => ⟨m4, ρ4, S4, l1.trans le4, R4, re4, h4⟩
      · exact fun _ _ z => z
    · exact ⟨false, bl_of rd, (if_neg Bool.false_ne_true).mpr (q m1 σ' H1 l1 R1 re1)⟩
    · exact q.elim
theorem swap_none {tg v : Expr} {env : PySem.Env} (h : noSwap v = true) : swappedStores [tg] v env = pure none := by
  cases v with
  | Tuple es k p =>
    have h2 : es.all (foldedForSure 8) = true := h
    unfold swappedStores
    cases tg <;> first | rfl | skip
    all_goals
      dsimp only
      simp only [h2, if_true, pure_bind]
      repeat' split
      all_goals rfl
  | _ => cases tg <;> rfl
theorem block_fn {env : PySem.Env} (h : env.scope.kind = .function) : env.blockKind = .function := by
  unfold Env.blockKind
  rw [h]
  rfl
theorem fn_of {sc : Scope} (h : fnB sc = true) : sc.kind = .function := by
  unfold fnB at h
  split at h
  · assumption
  · cases h
theorem swap_two {x y : Str} {px py pt : Pos} {kt k2 : Nat} {pt2 : Pos} {u w : Expr} {env : PySem.Env} (hk : env.scope.kind = .function) (hx : env.scope.names.lookup x = some .local) (hy : env.scope.names.lookup y = some .local) (hl : (px.line == py.line) = true) (hne : x ≠ y) (su : starred u = false) (sw : starred w = false)
    (hf : (foldedForSure 8 u && foldedForSure 8 w) = false) (hc : (constantsAlone 8 u && constantsAlone 8 w) = false) : swappedStores [.Tuple [.Name x px, .Name y py] kt pt] (.Tuple [u, w] k2 pt2) env = pure (some [x, y]) := by
  have e1 : env.kindOf x = some .local := hx
  have e2 : env.kindOf y = some .local := hy
  have e3 := block_fn hk
  have e5 : py.line = px.line := (eq_of_beq hl).symm
  have e6 : [u, w].all (foldedForSure 8) = false := by simpa using hf
  have e7 : [u, w].all (constantsAlone 8) = false := by simpa using hc
  have e8 : ([x, y].eraseDups).length = 2 := by
    have : (y == x) = false := by simpa using Ne.symm hne
    simp [List.eraseDups_cons, this, Ne.symm hne]
  unfold swappedStores
  simp only [e6, e7, e3]
  simp [e1, e2, e5, e8, Expr.pos]
  intro h
  rcases h with h | h
  · cases u <;> first | (cases su; done) | (cases h; done)
  · cases w <;> first | (cases sw; done) | (cases h; done)
theorem used_eq {elt : Expr} {gs : List Comprehension} {scope : Scope} {pos py : Pos} {y : Str} {l : Nat} {env : PySem.Env} (hk : env.scope.kind = .function) : swapsWith (.ListComp elt gs scope pos) (some (.Name y py)) l env = pure (usedB env.scope scope y py pos) := by
  have hb := block_fn hk
  unfold swapsWith usedB
  simp only [hb, Expr.pos]
  cases e : env.scope.names.lookup y with
  | none =>
    have e2 : env.kindOf y = none := e
    simp [e2]
  | some k =>
    have e2 : env.kindOf y = some k := e
    cases k <;> first | (simp [e2]; done) | (simp only [e2]; rfl)
theorem used_eqD {kx vx : Expr} {gs : List Comprehension} {scope : Scope} {pos py : Pos} {y : Str} {l : Nat} {env : PySem.Env} (hk : env.scope.kind = .function) : swapsWith (.DictComp kx vx gs scope pos) (some (.Name y py)) l env = pure (usedB env.scope scope y py pos) := by
  have hb := block_fn hk
  unfold swapsWith usedB
  simp only [hb, Expr.pos]
  cases e : env.scope.names.lookup y with
  | none =>
    have e2 : env.kindOf y = none := e
    simp [e2]
  | some k =>
    have e2 : env.kindOf y = some k := e
    cases k <;> first | (simp [e2]; done) | (simp only [e2]; rfl)
theorem used_local {sc scope : Scope} {y : Str} {py pos : Pos} (h : usedB sc scope y py pos = true) : sc.names.lookup y = some .local := by
  unfold usedB at h
  obtain ⟨h1, _, _⟩ := and3 h
  split at h1
  · assumption
  · cases h1
/-- name = {..} on one line, the name a local -/
theorem ps_setDc {i : Nat} {y : Str} {py : Pos} {kx vx tg iter : Expr} {ifs : List Expr} {scope : Scope} {own : List (Str × Nat)} {pos spos : Pos} {wi : TI} {g : TG} {tt : TT} {tk tv : TE} (hc : X.calm = true) (hN : X.N.Nodup) (hy : X.N[i]? = some y) (hyl : X.env.scope.names.lookup y = some .local)
    (hsw : swapsWith (.DictComp kx vx [⟨tg, iter, ifs, 0⟩] scope pos) (some (.Name y py)) spos.line X.env = pure true) (hi : PI X tg iter wi) (ok : BlkOk X.N X.env.scope scope own)
    (hg : ∀ (s : Shared) (H : Hp) (C : Addr) (cs : List (Str × Addr)) (fp : List Addr), PG (X.blk s H scope (compEnvC scope cs C X.env) fp) tg g)
    (ht : ∀ (s : Shared) (H : Hp) (C : Addr) (cs : List (Str × Addr)) (fp : List Addr), PTs (X.blk s H scope (compEnvC scope cs C X.env) fp) ifs tt)
    (hk : ∀ (s : Shared) (H : Hp) (C : Addr) (cs : List (Str × Addr)) (fp : List Addr), PE (X.blk s H scope (compEnvC scope cs C X.env) fp) kx tk)
    (he : ∀ (s : Shared) (H : Hp) (C : Addr) (cs : List (Str × Addr)) (fp : List Addr), PE (X.blk s H scope (compEnvC scope cs C X.env) fp) vx tv) (hs : ∀ x, foldedSetIterable iter X.env x = pure x) :
    PS X (.Assign [.Name y py] (.DictComp kx vx [⟨tg, iter, ifs, 0⟩] scope pos) spos) (tAsg (tDc wi g tt tk tv (own.map (·.2))) (gName i)) := by
  refine ⟨fun pins s σ H D I h => ?_⟩
  rw [exec_Assign_Name_used _ _ _ _ hsw]
  refine wpAny_bind (wpAny_standAt (wpAny_bind ?_))
  show wpAny _ X.A (do let _ ← comprehension (.DictComp kx vx [⟨tg, iter, ifs, 0⟩] scope pos) scope X.env (firstIterPos [⟨tg, iter, ifs, 0⟩] pos) newDict false (eval iter X.env) (some (assign (.Name y py) X.env))) _ _ s
  replace h : tDc wi g tt tk tv (own.map (·.2)) σ H (fun x H1 => gName i x σ H1 D.nx) := h
  refine wpAny_bind (thn (dc_core (Qf := fun _ s' => SP X pins D .next s') hc hN I hi ok hg ht hk he hs h fun L C s' m H' I' q hn f => ?_) fun _ s' hq => wpAny_pure (wpAny_pure hq))
  show wpAny _ _ (assign (.Name y py) X.env (.ref L)) _ _ _
  refine wpAny_assign_Name (store_ok2 (v := V.ref L) I' hN hy (.inl hyl) rfl (fun s2 I2 ⟨a, sb, ha⟩ => ?_) (.inr hyl))
  obtain ⟨f0, f1, f2, f3, f4, f5⟩ := f
  have haC : C ≠ a := by
    rcases ha with z | z
    · rw [z]; exact f1
    · exact fun e => f4 y a z e.symm
  refine ⟨m, hn.sameBut sb haC, fun h3 sb3 => ?_⟩
  exact ⟨_, H', I2.turned (t' := s2.toks) (fun b o hb e => (sb3.2 b hb).trans e) f0 f1 f3 f4 f5, q⟩
/-- name = value, whatever the value -/
theorem set_any (hF : SemMono F) (ok : SOk c cl F X) {i : Nat} {e : E} {x : Str} {px spos : Pos} {v : Expr} (hi : c.N[i]? = some x) (hx : locB c.sc x = true) (hfn : fnB c.sc = true) (h : chkE e c v = true) : PS X (.Assign [.Name x px] v spos) (tAsg (lE X.K cl F e) (gName i)) := by
  have hi' : X.N[i]? = some x := by rw [ok.x.N]; exact hi
  have hx' : Loc X.env.scope x := by rw [ok.x.sc]; exact loc_of hx
  have hk : X.env.scope.kind = .function := by rw [ok.x.sc]; exact fn_of hfn
  have A := (sndE hF e ok.x _ h).v
  have plain : (swapsWith v (some (.Name x px)) spos.line X.env = pure false) → PS X (.Assign [.Name x px] v spos) (tAsg (lE X.K cl F e) (gName i)) := fun hs =>
    ps_set ok.x.nd hi' hx' A hs (.inl (ok.x.tg ok.blk _))
  by_cases hcmp : isComp v = false
  · exact plain (swaps_not hcmp)
  · cases v with
    | ListComp elt gs scope pos =>
      have hsw := used_eq (elt := elt) (gs := gs) (scope := scope) (pos := pos) (py := px) (y := x) (l := spos.line) hk
      cases hu : usedB X.env.scope scope x px pos with
      | false => rw [hu] at hsw; exact plain hsw
      | true =>
        rw [hu] at hsw
        have hyl := used_local hu
        cases e with
        | bad => exact ⟨fun pins s σ H D I ⟨_, _, _, _, _, h⟩ => h.elim⟩
        | lc own t it cd e =>
          unfold chkE at h
          split at h
          · rename_i y tg i2 fs scope2 pos2 eq
            cases eq
            obtain ⟨h1, h7, h8⟩ := and3 h
            obtain ⟨h1, h5, h6⟩ := and3 h1
            obtain ⟨h1, h3, h4⟩ := and3 (show ((_ && _) && _) = true from h1)
            have B : BlkOk X.N X.env.scope scope (ownP c.N own) := by
              rw [ok.x.N, ok.x.sc]
              exact blkOk_by h1
            have hs : ∀ j ∈ t.slots, j ∈ own := fun j hj => by simpa using List.all_eq_true.mp h4 j hj
            have ho : (ownP c.N own).map (·.2) = own := by
              unfold ownP
              rw [List.map_map]
              exact List.map_id' own
            have PI0 := sndIt hF it ok.x (tg := tg) _ h5
            have key : ∀ {tt : TT}, (∀ σ H Q, tB (lE X.K cl F cd) σ H Q → tt σ H Q) → (∀ (s : Shared) (H : Hp) (C : Addr) (cs : List (Str × Addr)) (fp : List Addr), PTs (X.blk s H scope (compEnvC scope cs C X.env) fp) fs tt) → PS X (.Assign [.Name x px] (.ListComp elt [⟨tg, i2, fs, 0⟩] scope pos) spos) (tAsg (lE X.K cl F (.lc own t it cd e)) (gName i)) := fun {tt} ht hp => by
              refine PS.mono (ps_setLc ok.x.calm ok.x.nd hi' hyl hsw PI0 B (fun s H C cs fp => show PG _ tg (lG X.K cl t) from sndTg (ok.x.blk s H C cs fp) t _ h3) hp (fun s H C cs fp => show PE _ elt (lE X.K cl F e) from (sndE hF e (ok.x.blk s H C cs fp) _ h7).v) (folded_not (not_t h6))) fun D σ H w => ?_
              unfold tAsg at w ⊢
              rw [ho]
              exact lc_snd hF hs ht w
            split at h8
            · split at h8
              · refine key (tt := tYes) (fun σ H Q w => ?_) fun s H C cs fp => pts_nil
                obtain ⟨m, ρ, S, R, re, w⟩ := w
                obtain ⟨b, eb, w⟩ := up_here (show up X.K cl m H _ (.bl true) S from w) R (.bl true)
                cases eb
                exact w
              · cases h8
            · obtain ⟨h8, h9⟩ := and2 h8
              exact key (fun _ _ _ w => w) fun s H C cs fp => pts_one ((sndE hF cd (ok.x.blk s H C cs fp) _ h8).t h9)
            · cases h8
          · cases h
        | _ => first | (cases h; done) | (unfold chkE at h; (repeat' split at h) <;> first | (cases h; done) | contradiction)
    | DictComp kx vx gs scope pos =>
      have hsw := used_eqD (kx := kx) (vx := vx) (gs := gs) (scope := scope) (pos := pos) (py := px) (y := x) (l := spos.line) hk
      cases hu : usedB X.env.scope scope x px pos with
      | false => rw [hu] at hsw; exact plain hsw
      | true =>
        rw [hu] at hsw
        have hyl := used_local hu
        cases e with
        | bad => exact ⟨fun pins s σ H D I ⟨_, _, _, _, _, h⟩ => h.elim⟩
        | dc own t it k e =>
          unfold chkE at h
          split at h
          · rename_i z y tg i2 scope2 pos2 eq
            cases eq
            obtain ⟨h1, h7, h8⟩ := and3 h
            obtain ⟨h1, h5, h6⟩ := and3 h1
            obtain ⟨h1, h3, h4⟩ := and3 (show ((_ && _) && _) = true from h1)
            have B : BlkOk X.N X.env.scope scope (ownP c.N own) := by
              rw [ok.x.N, ok.x.sc]
              exact blkOk_by h1
            have hs : ∀ j ∈ t.slots, j ∈ own := fun j hj => by simpa using List.all_eq_true.mp h4 j hj
            have ho : (ownP c.N own).map (·.2) = own := by
              unfold ownP
              rw [List.map_map]
              exact List.map_id' own
            have PI0 := sndIt hF it ok.x (tg := tg) _ h5
            refine PS.mono (ps_setDc ok.x.calm ok.x.nd hi' hyl hsw PI0 B (fun s H C cs fp => show PG _ tg (lG X.K cl t) from sndTg (ok.x.blk s H C cs fp) t _ h3) (fun s H C cs fp => pts_nil) (fun s H C cs fp => show PE _ kx (lE X.K cl F k) from (sndE hF k (ok.x.blk s H C cs fp) _ h7).v) (fun s H C cs fp => show PE _ vx (lE X.K cl F e) from (sndE hF e (ok.x.blk s H C cs fp) _ h8).v) (folded_not (not_t h6))) fun D σ H w => ?_
            unfold tAsg at w ⊢
            rw [ho]
            exact dc_snd hF hs w
          · cases h
        | _ => first | (cases h; done) | (unfold chkE at h; (repeat' split at h) <;> first | (cases h; done) | contradiction)
    | SetComp _ _ _ _ =>
      cases e with
      | bad => exact ⟨fun pins s σ H D I ⟨_, _, _, _, _, h⟩ => h.elim⟩
      | _ => first | (cases h; done) | (unfold chkE at h; (repeat' split at h) <;> first | (cases h; done) | contradiction)
    | _ => exact absurd rfl hcmp
/-- x op= y -/
def rIop (K : Fg) (cl : Cl) (op : Operator) : TIp := fun x y H Q => ∃ m S dx dy, RS K cl m H S ∧ RD K m H dx x ∧ RD K m H dy y ∧ iop op dx dy S (up K cl m H Q)
theorem iop_snd (op : Operator) : PIp X op (rIop X.K cl op) := by
  intro pins s σ H x y v u Q I rx ry ⟨m, S, dx, dy, R, r1, r2, h⟩
  unfold iop at h
  split at h
  · split at h
    · cases r1
      cases r2
      exact ip_add pins s σ H _ _ v u Q I rx ry ⟨_, _, rfl, rfl, up_here h R (.int _)⟩
    · split at h
      · rename_i l k g1 g2
        cases r1 with
        | ref h1 =>
          cases r2 with
          | ref h2 =>
            obtain ⟨vs, a1, q1⟩ := R.at_ _ _ _ h1 g1
            obtain ⟨us, a2, q2⟩ := R.at_ _ _ _ h2 g2
            have hl := lim_le
            have := q1.length
            have := q2.length
            have := h.1
            refine iop_ext pins s σ H _ _ v u Q I rx ry ⟨_, _, vs, us, rfl, rfl, a1, a2, by omega, ?_⟩
            exact h.2 _ _ _ (le_set a1 trivial) (R.set h1 a1 trivial ⟨_, upd_same, (q1.append q2).mono (le_set a1 trivial)⟩) (.ref h1)
      · exact h.elim
    · exact h.elim
  · split at h
    · cases r1
      cases r2
      exact ip_sub pins s σ H _ _ v u Q I rx ry ⟨_, _, rfl, rfl, up_here h R (.int _)⟩
    · exact h.elim
  · exact h.elim
theorem swaps_attr {v o : Expr} {f : Str} {p : Pos} {l : Nat} {env : PySem.Env} : swapsWith v (some (.Attribute o f p)) l env = pure false := by
  cases v <;> rfl
theorem putF_eq (f : Str) (v : V) (gs : List (Str × V)) {K : Fg} {m : List Addr} {H : Hp} {fs : List (Str × D)} {d : D} (r : KR K m H fs gs) (rd : RD K m H d v) : KR K m H (Mn.putF f d fs) (L2.putF f v gs) := by
  induction r with
  | nil => exact .cons rd .nil
  | @cons k d' v' l kvs r q ih =>
    unfold Mn.putF L2.putF
    split
    · exact .cons rd q
    · exact .cons r ih
theorem setAt_go {K : Fg} {m : List Addr} {H : Hp} {S : Store} {k : Nat} {f : Str} {o d : D} {v w : V} {Q : Store → Prop} (R : RS K cl m H S) (r1 : RD K m H o v) (r2 : RD K m H d w) (h : setAt k f o d S Q) :
    ∃ a C dx gs, v = .ref a ∧ H a = some (.ins C dx gs) ∧ cl k = some C ∧ gs.length < 1000 ∧ Le m H m (upd H a (.ins C dx (L2.putF f w gs))) ∧ ∃ S', RS K cl m (upd H a (.ins C dx (L2.putF f w gs))) S' ∧ Q S' := by
  unfold setAt at h
  split at h
  · split at h
    · rename_i n c' fs g
      obtain ⟨ec, hl, q⟩ := h
      subst ec
      cases r1 with
      | ref hm =>
        obtain ⟨C, dx, gs, hc, h1, qr⟩ := R.at_ _ _ _ hm g
        have := qr.length
        exact ⟨_, C, dx, gs, rfl, h1, hc, by omega, le_set h1 trivial, S.set _ (.ins _ (Mn.putF f d fs)), R.set hm h1 trivial ⟨C, dx, _, hc, upd_same, (putF_eq f w gs qr r2).mono (le_set h1 trivial)⟩, q⟩
    · exact h.elim
  · exact h.elim
mutual
theorem sndC (hF : SemMono F) (ok : SOk c cl F X) : ∀ (a : C) (s : Stmt), chkC c a s = true → PS X s (LS X.K cl (wpC F a))
  | .bad, s, _ => ⟨fun pins s σ H D I ⟨_, _, _, _, _, h⟩ => h.elim⟩
  | .raise _, s, _ => ⟨fun pins s σ H D I ⟨_, _, _, _, _, h⟩ => h.elim⟩
  | .star i j e, s, h => by
    unfold chkC at h
    split at h
    · obtain ⟨h, a6, a7⟩ := and3 h
      obtain ⟨h, a4, a5⟩ := and3 h
      obtain ⟨a1, a2, a3⟩ := and3 h
      have A := (sndE hF e ok.x _ a5).v
      refine PS.mono (ps_asg A (pg_star (i := i) (j := j) ok.x.calm ok.x.nd (by rw [ok.x.N]; exact of_decide_eq_true a1) (by rw [ok.x.N]; exact of_decide_eq_true a2) (by rw [ok.x.sc]; exact loc_of a3) (by rw [ok.x.sc]; exact loc_of a4) (.inl (ok.x.tg ok.blk _)) (.inl (ok.x.tg ok.blk _))) (sole_not (not_t a6)) (swap_none a7) rfl) fun D σ H q => ?_
      obtain ⟨m, ρ, S, R, re, q⟩ := q
      refine le_step hF e R re q fun d S1 m1 H1 v q le R1 rd re1 => ?_
      split at q
      · cases rd with
        | tup ht qt =>
          cases qt with
          | cons r0 rs =>
            refine ⟨_, _, _, rfl, ht, fun p np => ?_⟩
            exact q _ _ _ (le.trans (le_push np)) (R1.pushL np rs) (((re1.mono (le_push np)).set (r0.mono (le_push np)) i).set (.ref (R1.last p)) j)
      · exact q.elim
    · cases h
  | .unp i j e, s, h => by
    unfold chkC at h
    split at h
    · obtain ⟨h, a6, a7⟩ := and3 h
      obtain ⟨h, a4, a5⟩ := and3 h
      obtain ⟨a1, a2, a3⟩ := and3 h
      have A := (sndE hF e ok.x _ a5).v
      refine PS.mono (ps_asg A (pg_unl (n := 2) ok.x.calm (pgs_cons (pg_name (i := i) ok.x.nd (by rw [ok.x.N]; exact of_decide_eq_true a1) (by rw [ok.x.sc]; exact loc_of a3) (.inl (ok.x.tg ok.blk _))) (pgs_cons (pg_name (i := j) ok.x.nd (by rw [ok.x.N]; exact of_decide_eq_true a2) (by rw [ok.x.sc]; exact loc_of a4) (.inl (ok.x.tg ok.blk _))) pgs_nil))) (sole_not (not_t a6)) (swap_none a7) rfl) fun D σ H q => ?_
      obtain ⟨m, ρ, S, R, re, q⟩ := q
      refine le_step hF e R re q fun d S1 m1 H1 v q le R1 rd re1 => ?_
      split at q
      · rename_i a b e1
        obtain ⟨p, vs, rfl, hq, qs⟩ := rd.lq R1 e1
        cases qs with
        | cons r0 rs =>
          cases rs with
          | cons r1 rs =>
            cases rs
            exact ⟨_, _, rfl, hq, rfl, _, _, rfl, _, _, rfl, ⟨rfl, q _ _ _ le R1 ((re1.set r0 i).set r1 j)⟩⟩
      · exact q.elim
    · cases h
  | .augX _ _ _ _, s, h => by cases h
  | .pass, s, h => by
    unfold chkC at h
    split at h
    · exact PS.mono ps_pass fun D σ H ⟨m, ρ, S, R, re, q⟩ => q m σ H (Le.refl m H) R re
    · cases h
  | .set i e, s, h => by
    unfold chkC at h
    split at h
    · obtain ⟨h123, h4⟩ := and2 h
      obtain ⟨h1, h2, h3⟩ := and3 h123
      refine PS.mono (set_any hF ok (i := i) (of_decide_eq_true h1) h2 h3 h4) fun D σ H q => ?_
      obtain ⟨m, ρ, S, R, re, q⟩ := q
      refine le_step hF e R re q fun d S1 m1 H1 v q le R1 rd re1 => ?_
      exact q m1 _ H1 le R1 (re1.set rd i)
    · cases h
  | .asg t e, s, h => by
    unfold chkC at h
    split at h
    · obtain ⟨h123, h4⟩ := and2 h
      obtain ⟨h1, h2, h3⟩ := and3 h123
      have A := (sndE hF e ok.x _ h2).v
      refine PS.mono (ps_asg A (sndTg ok.x t _ h1) (sole_not (not_t h3)) (swap_none h4) rfl) fun D σ H q => ?_
      obtain ⟨m, ρ, S, R, re, q⟩ := q
      refine le_step hF e R re q fun d S1 m1 H1 v q le R1 rd re1 => ?_
      split at q
      · rename_i ρ1 e1
        exact lG_go R1 re1 rd e1 fun m2 H2 σ2 le2 R2 re2 _ => q m2 σ2 H2 (le.trans le2) R2 re2
      · exact q.elim
    · cases h
  | .par i j a b, s, h => by
    unfold chkC at h
    split at h
    · obtain ⟨h, a14⟩ := and2 h
      obtain ⟨h, a12, a13⟩ := and3 h
      obtain ⟨h, a10, a11⟩ := and3 h
      obtain ⟨h, a8, a9⟩ := and3 h
      obtain ⟨h, a6, a7⟩ := and3 h
      obtain ⟨h, a4, a5⟩ := and3 h
      obtain ⟨a1, a2, a3⟩ := and3 h
      have A := (sndE hF a ok.x _ a13).v
      have B := (sndE hF b ok.x _ a14).v
      have hx := of_decide_eq_true a5
      have hy := of_decide_eq_true a6
      rw [← ok.x.sc] at hx hy
      have hk : X.env.scope.kind = .function := by rw [ok.x.sc]; exact fn_of a8
      refine PS.mono (ps_par (i := i) (j := j) ok.x.calm ok.x.nd (by rw [ok.x.N]; exact of_decide_eq_true a1) (by rw [ok.x.N]; exact of_decide_eq_true a2) (of_decide_eq_true a3) hx hy (pa_cons A (pa_cons B pa_nil (star_not (not_t a10))) (star_not (not_t a9)))
        (swap_two hk hx hy a7 (of_decide_eq_true a4) (not_t a9) (not_t a10) (not_t a11) (not_t a12)) rfl) fun D σ H q => ?_
      obtain ⟨m, ρ, S, R, re, q⟩ := q
      refine le_step hF a R re q fun d S1 m1 H1 v q le R1 rd re1 => le_step hF b R1 re1 q fun d2 S2 m2 H2 v2 q2 le2 R2 rd2 re2 => ?_
      exact ⟨v, v2, rfl, q2 m2 _ H2 (le.trans le2) R2 ((re2.set (rd.mono le2) i).set rd2 j)⟩
    · cases h
  | .setA k o f e, s, h => by
    unfold chkC at h
    split at h
    · obtain ⟨h123, h4⟩ := and2 h
      obtain ⟨h1, h2, h3⟩ := and3 h123
      have en := of_decide_eq_true h1
      subst en
      obtain ⟨q, hq, h5⟩ := List.any_eq_true.mp h4
      obtain ⟨k1, k2⟩ := and2 h5
      obtain ⟨qk, qf⟩ := q
      have e1 := of_decide_eq_true k1
      have e2 := of_decide_eq_true k2
      dsimp only at e1 e2
      subst e1 e2
      obtain ⟨C, hC, hc, hno⟩ := ok.x.flds _ _ hq
      have O := (sndE hF o ok.x _ h2).v
      have A := (sndE hF e ok.x _ h3).v
      refine PS.mono (ps_fld O A swaps_attr) fun D σ H q => ?_
      obtain ⟨m, ρ, S, R, re, q⟩ := q
      refine le_step hF e R re q fun d S1 m1 H1 v q le R1 rd re1 => le_step hF o R1 re1 q fun d2 S2 m2 H2 v2 q2 le2 R2 rd2 re2 => ?_
      obtain ⟨a, C', dx, gs, ev, h1, hcl, hlen, l3, S3, R3, q3⟩ := setAt_go R2 rd2 (rd.mono le2) q2
      rw [hC] at hcl
      cases hcl
      exact ⟨a, C, dx, gs, ev, h1, hc, hno, hlen, q3 m2 σ _ ((le.trans le2).trans l3) R3 (re2.mono l3)⟩
    · cases h
  | .aug i op e, s, h => by
    unfold chkC at h
    split at h
    · obtain ⟨h123, h4⟩ := and2 h
      obtain ⟨h1, h2, h3⟩ := and3 h123
      have en := of_decide_eq_true h3
      subst en
      have A := (sndE hF e ok.x _ h4).v
      refine PS.mono (ps_aug (i := i) ok.x.nd (by rw [ok.x.N]; exact of_decide_eq_true h1) (by rw [ok.x.sc]; exact loc_of h2) A (iop_snd (cl := cl) op) (.inl (ok.x.tg ok.blk _))) fun D σ H q => ?_
      obtain ⟨m, ρ, S, R, re, q⟩ := q
      replace q : (match ρ[i]? with | some (some x) => wpE F e ρ S (fun y S1 => iop op x y S1 fun z S2 => (upE X.K cl m H D).nx (ρ.set i (some z)) S2) noX | _ => False) := q
      split at q
      · rename_i d ed
        obtain ⟨v, ev, rd⟩ := re.at_ i d ed
        refine ⟨v, ev, le_step hF e R re q fun d2 S1 m1 H1 v2 q le R1 rd2 re1 => ?_⟩
        exact ⟨m1, S1, d, d2, R1, rd.mono le, rd2, iop_mono (fun z S2 w m2 H2 v3 le2 R2 rd3 => w m2 _ H2 (le.trans le2) R2 ((re1.mono le2).set rd3 i)) q⟩
      · exact q.elim
    · cases h
  | .augA k o f op e, s, h => by
    unfold chkC at h
    split at h
    · obtain ⟨h1234, h4, h5⟩ := and3 h
      obtain ⟨h1, h2, h3⟩ := and3 h1234
      have en := of_decide_eq_true h1
      have eo := of_decide_eq_true h2
      subst en eo
      obtain ⟨q, hq, h6⟩ := List.any_eq_true.mp h5
      obtain ⟨k1, k2⟩ := and2 h6
      obtain ⟨qk, qf⟩ := q
      have e1 := of_decide_eq_true k1
      have e2 := of_decide_eq_true k2
      dsimp only at e1 e2
      subst e1 e2
      obtain ⟨C, hC, hc, hno⟩ := ok.x.flds _ _ hq
      have O := (sndE hF o ok.x _ h3).v
      have A := (sndE hF e ok.x _ h4).v
      refine PS.mono (ps_fldaug O A (iop_snd (cl := cl) op)) fun D σ H q => ?_
      obtain ⟨m, ρ, S, R, re, q⟩ := q
      refine le_step hF o R re q fun d S1 m1 H1 v q le R1 rd re1 => ?_
      split at q
      · rename_i c' fs e0
        split at q
        · rename_i w ew
          obtain ⟨ec, q9⟩ := q
          subst ec
          obtain ⟨nn, a, C', dx, gs, rfl, hm, rfl, g, hcl, h1, qr⟩ := rd.ins R1 e0
          rw [hC] at hcl
          cases hcl
          rcases qr.lookup qf with ⟨d, v, l1, l2, l3⟩ | ⟨l1, l2⟩
          · rw [l1] at ew
            cases ew
            refine ⟨a, C, dx, gs, v, rfl, h1, hc, hno, l2, le_step hF e R1 re1 q9 fun d2 S2 m2 H2 v2 q2 le2 R2 rd2 re2 => ?_⟩
            refine ⟨m2, S2, _, d2, R2, l3.mono le2, rd2, iop_mono (fun z S3 w m3 H3 v3 le3 R3 rd3 => ?_) q2⟩
            obtain ⟨a', C', dx', gs', ev, h1', hcl', hlen, l4, S4, R4, q3⟩ := setAt_go R3 (rd.mono (le2.trans le3)) rd3 w
            cases ev
            rw [hC] at hcl'
            cases hcl'
            exact ⟨dx', gs', h1', hlen, q3 m3 σ _ (((le.trans le2).trans le3).trans l4) R4 ((re2.mono le3).mono l4)⟩
          · rw [l1] at ew; cases ew
        · exact q.elim
      · exact q.elim
    · cases h
  | .setIx o i e, s, h => by
    unfold chkC at h
    split at h
    · obtain ⟨h123, h4, h5⟩ := and3 h
      obtain ⟨h1, h2, h3⟩ := and3 h123
      have O := (sndE hF o ok.x _ h1).v
      have I := (sndE hF i ok.x _ h2).v
      have A := (sndE hF e ok.x _ h3).v
      refine PS.mono (ps_asg A (pg_sub O I (set_snd (cl := cl) ok.x.units) (assign_sub (not_t h4))) (sole_not (not_t h5)) rfl rfl) fun D σ H q => ?_
      obtain ⟨m, ρ, S, R, re, q⟩ := q
      refine le_step hF e R re q fun d S1 m1 H1 v q le R1 rd re1 => le_step hF o R1 re1 q fun d2 S2 m2 H2 v2 q2 le2 R2 rd2 re2 => le_step hF i R2 re2 q2 fun d3 S3 m3 H3 v3 q3 le3 R3 rd3 re3 => ?_
      refine ⟨m3, S3, d2, d3, d, R3, rd2.mono le3, rd3, rd.mono (le2.trans le3), setIx_mono (fun S4 z H4 le4 R4 => ?_) q3⟩
      exact z m3 σ H4 (((le.trans le2).trans le3).trans le4) R4 (re3.mono le4)
    · cases h
  | .ret e, s, h => by
    unfold chkC at h
    split at h
    · have A := (sndE hF e ok.x _ h).v
      refine PS.mono (ps_ret A) fun D σ H q => ?_
      obtain ⟨m, ρ, S, R, re, q⟩ := q
      exact ⟨m, ρ, S, R, re, q⟩
    · split at h
      · refine PS.mono ps_retN fun D σ H q => ?_
        obtain ⟨m, ρ, S, R, re, q⟩ := q
        exact q m H .non (Le.refl m H) R .non
      · cases h
    · cases h
  | .ex e, s, h => by
    unfold chkC at h
    split at h
    · obtain ⟨h1, h2⟩ := and2 h
      have A := (sndE hF e ok.x _ h1).v
      refine PS.mono (ps_expr A (swaps_not (not_t h2))) fun D σ H q => ?_
      obtain ⟨m, ρ, S, R, re, q⟩ := q
      refine le_step hF e R re q fun d S1 m1 H1 v q le R1 rd re1 => ?_
      exact q m1 σ H1 le R1 re1
    · cases h
  | .cond t a b, s, h => by
    unfold chkC at h
    split at h
    · obtain ⟨h123, h4⟩ := and2 h
      obtain ⟨h1, h2, h3⟩ := and3 h123
      have T := (sndE hF t ok.x _ h1).t h2
      have A := sndCs hF ok a _ h3
      have B := sndCs hF ok b _ h4
      refine PS.mono (ps_if T A B) fun D σ H q => ?_
      obtain ⟨m, ρ, S, R, re, q⟩ := q
      refine le_step hF t R re q fun d S1 m1 H1 v q le R1 rd re1 => ?_
      split at q
      · exact ⟨true, bl_of rd, (if_pos rfl).mpr ⟨m1, ρ, S1, R1, re1, wpCs_mono hF a (upE_le le) q⟩⟩
      · exact ⟨false, bl_of rd, (if_neg Bool.false_ne_true).mpr ⟨m1, ρ, S1, R1, re1, wpCs_mono hF b (upE_le le) q⟩⟩
      · exact q.elim
    · cases h
  | .whl t b, s, h => by
    unfold chkC at h
    split at h
    · obtain ⟨h1, h2, h3⟩ := and3 h
      exact PS.mono (ps_while ok.own ((sndE hF t ok.x _ h1).t h2) (sndCs hF ok b _ h3)) fun D σ H q => whl_snd hF (fun _ _ _ z => z) q
    · cases h
  | .for_ t it b, s, h => by
    unfold chkC at h
    split at h
    · obtain ⟨h123, h4⟩ := and2 h
      obtain ⟨h1, h2, h3⟩ := and3 h123
      exact PS.mono (ps_for ok.own ok.x.calm (sndIt hF it ok.x _ h2) (sndTg ok.x t _ h1) (sndCs hF ok b _ h3) (folded_not (not_t h4))) fun D σ H q => for_snd hF (fun _ _ _ z => z) q
    · cases h
theorem sndCs (hF : SemMono F) (ok : SOk c cl F X) : ∀ (a : Cs) (ss : List Stmt), chkCs c a ss = true → PSs X ss (LS X.K cl (wpCs F a))
  | .nil, ss, h => by
    cases ss with
    | nil => exact PSs.mono pss_nil fun D σ H ⟨m, ρ, S, R, re, q⟩ => q m σ H (Le.refl m H) R re
    | cons _ _ => cases h
  | .cons a b, ss, h => by
    cases ss with
    | nil => cases h
    | cons s ss =>
      obtain ⟨h1, h2⟩ := and2 (show (chkC c a s && chkCs c b ss) = true from h)
      have A := sndC hF ok a _ h1
      have B := sndCs hF ok b _ h2
      refine PSs.mono (pss_cons A B) fun D σ H q => ?_
      obtain ⟨m, ρ, S, R, re, q⟩ := q
      refine ⟨m, ρ, S, R, re, wpC_mono hF a (K := { upE X.K cl m H D with nx := fun ρ1 S1 => wpCs F b (upE X.K cl m H D) ρ1 S1 }) ⟨?_, fun _ _ z => z, fun _ _ z => z, fun _ _ z => z, fun _ _ z => z⟩ q⟩
      exact fun ρ1 S1 h1 m1 σ1 H1 le1 R1 re1 => ⟨m1, ρ1, S1, R1, re1, wpCs_mono hF b (upE_le le1) h1⟩
end
end
end Mn

/-! Defs: each keeps the promise that the small language says of its call, at every level. -/
namespace Mn
open PySem PySem.Spec PyProof.Rows L2
/-- a def of the text: its global name, its number, its names by slot, its parameters, its keyword-only one, its class and name there, what the head says of it -/
structure Ent where
  x : Str
  f : Nat
  N : List Str
  ps : List Str
  kw : Option (Str × D)
  me : Option (Str × Nat × Str)
  d : He.DefD
/-- facts of the module -/
structure Glb (K : Fg) (mg : Str → Option Value) (cl : Cl) (csts : List (Str × D)) (free : List Str) (flds : List (Nat × Str)) : Prop where
  csts : ∀ x d, (x, d) ∈ csts → ∃ u v, mg x = some u ∧ RelV v u ∧ ∀ m H, RD K m H d v
  free : ∀ x ∈ free, mg x = none
  flds : ∀ k f, (k, f) ∈ flds → ∃ C, cl k = some C ∧ Cls K C ∧ NoAttr K C f
def fnsOf (tab : List Ent) : List Fe := tab.filterMap fun e => match e.me with
  | none => some ⟨e.x, e.f, e.ps.length, e.kw⟩
  | some _ => none
def mtsOf (tab : List Ent) : List (Nat × Str × Nat × Nat) := tab.filterMap fun e => match e.me with
  | some (_, k, m) => if m = "__init__" then none else some (k, m, e.f, e.ps.length)
  | none => none
def mksOf (tab : List Ent) : List (Str × Nat × Nat × Nat) := tab.filterMap fun e => match e.me with
  | some (x, k, m) => if m = "__init__" then some (x, k, e.f, e.ps.length) else none
  | none => none
def cxOfE (tab : List Ent) (csts : List (Str × D)) (free : List Str) (flds : List (Nat × Str)) (N : List Str) (sc : Scope) : Cxt := ⟨N, sc, false, fnsOf tab, flds, mtsOf tab, mksOf tab, csts, free⟩
def scopeB (N ps : List Str) (sc : Scope) : Bool :=
  (match sc.kind with | .function => true | _ => false) && !sc.isCoroutine && !sc.isGenerator && decide N.Nodup && decide (N.take ps.length = ps) && ps.all (fun x => locB sc x) && sc.names.all fun y => !decide (y.2 = .free)
theorem scope_of {N ps : List Str} {sc : Scope} (h : scopeB N ps sc = true) : FnScope N ps sc := by
  unfold scopeB at h
  obtain ⟨h5, h6, h7⟩ := and3 h
  obtain ⟨h3, h4, h5⟩ := and3 h5
  obtain ⟨h1, h2, h3⟩ := and3 h3
  refine ⟨?_, not_t h2, not_t h3, of_decide_eq_true h4, of_decide_eq_true h5, fun x hx => ?_, fun y hy => ?_⟩
  · split at h1
    · assumption
    · cases h1
  · have := List.all_eq_true.mp h6 x hx
    exact loc_of this
  · have := not_t (List.all_eq_true.mp h7 y hy)
    exact of_decide_eq_false this
structure EntOk (K : Fg) (mg : Str → Option Value) (cl : Cl) (PP : Prog) (tab : List Ent) (csts : List (Str × D)) (free : List Str) (flds : List (Nat × Str)) (e : Ent) (fd : FuncData) : Prop where
  fn : FunD K e.d.name e.d.qual e.d.params e.d.body e.d.scope (e.d.dvs K) (e.d.kws K) (He.fAd K e.d.at_) fd
  mgx : e.me = none → mg e.x = some (.ref (He.fAd K e.d.at_))
  me : ∀ x k m, e.me = some (x, k, m) → e.kw = none ∧ ∃ C, cl k = some C ∧ Cls K C ∧ (m ≠ "__init__" → Meth K C m (He.fAd K e.d.at_)) ∧ (m = "__init__" → Mk K C (He.fAd K e.d.at_) ∧ mg x = some (.ref C))
  bind : match e.kw with
    | none => Binds K fd e.ps []
    | some q => (∃ dv ds, Vals [dv] ds ∧ Binds K fd e.ps ds ∧ ∀ m H, RD K m H q.2 dv) ∧ KBn K fd e.ps (e.ps.length - 1) [q.1] (fun us ws => us ++ ws) (fun vs zs => vs ++ zs)
  sc : scopeB e.N e.ps e.d.scope = true
  body : ∃ g, PP e.f = some g ∧ g.np = e.ps.length ∧ g.n = e.N.length ∧ chkCs (cxOfE tab csts free flds e.N e.d.scope) g.body e.d.body = true
theorem re_start {K : Fg} {m : List Addr} {H : Hp} {ds : List D} {vs : List V} (r : RDs K m H ds vs) (n : Nat) : RE K m H (ds.map some ++ List.replicate (n - ds.length) none) (vs.map some ++ List.replicate (n - vs.length) none) := by
  have hl := r.length
  refine ⟨by simp [hl], fun i d e => ?_⟩
  by_cases hi : i < ds.length
  · rw [List.getElem?_append_left (by simpa using hi), List.getElem?_map] at e
    cases q : ds[i]? with
    | none => rw [q] at e; cases e
    | some d' =>
      rw [q] at e
      cases e
      obtain ⟨v, hv, rv⟩ := r.get q
      refine ⟨v, ?_, rv⟩
      rw [List.getElem?_append_left (by rw [List.length_map, ← hl]; exact hi), List.getElem?_map, hv]
      rfl
  · rw [List.getElem?_append_right (by simpa using hi)] at e
    have := List.mem_of_getElem? e
    rw [List.mem_replicate] at this
    cases this.2
theorem fn_all {P : Program} {w : World} {K : Fg} {mg : Str → Option Value} {base : Heap} {cl : Cl} {PP : Prog} {tab : List Ent} {csts : List (Str × D)} {free : List Str} {flds : List (Nat × Str)} (G : Glb K mg cl csts free flds) (hT : ∀ e ∈ tab, ∃ fd, EntOk K mg cl PP tab csts free flds e fd) :
    ∀ n, ∀ e ∈ tab, ∀ fd, EntOk K mg cl PP tab csts free flds e fd → FnOk P w K mg base CX0 (2 * n) (He.fAd K e.d.at_) fd e.ps (spOf K cl (callN PP n) e.f e.ps.length)
  | 0, e, he, fd, ek => ⟨fun vs H Q E ⟨_, _, _, _, _, h, _⟩ => h, fun A outer s H args us vs Q E hr h0 hb hv ⟨_, _, _, _, _, _, h⟩ => h.elim⟩
  | n + 1, e, he, fd, ek => by
    have ih := fn_all (P := P) (w := w) (base := base) (cl := cl) G hT n
    have FS := scope_of ek.sc
    refine ek.fn.ok (k := 2 * n + 1) FS (fun vs H Q E ⟨_, _, _, _, _, h, _⟩ => h) fun cdv A outer s H vs Q E hr ⟨m, S, ds, R, rd, hl, h⟩ => ?_
    obtain ⟨g, hg, e1, e2, hc⟩ := ek.body
    unfold callN at h
    rw [hg] at h
    obtain ⟨h1, h2⟩ := h
    refine ⟨LS K cl (wpCs (callN PP n) g.body), PSs.nox ?_, m, startE g ds, S, R, ?_, ?_⟩
    · have hr0 : Room (2 * n) (A.deeper (envOfC e.d.qual e.d.scope s.heap.objs.size (He.fAd K e.d.at_) cdv)) := hr.mono (by omega)
      refine sndCs (callN_mono PP n) (X := (cxOf CX0 P w K mg base e.N e.d.qual e.d.scope (He.fAd K e.d.at_) cdv A outer s H E).nox) ⟨⟨rfl, FS.nd, rfl, rfl, ?_, fun _ _ => rfl, ?_, G.flds, ?_, ?_, G.csts, G.free⟩, rfl, rfl⟩ g.body _ hc
      · have := hr.un
        show (A.deeper _).units + 150 < cLine
        omega
      · intro p hp
        obtain ⟨e', he', ex⟩ := List.mem_filterMap.mp hp
        cases hme : e'.me with
        | some q => rw [hme] at ex; cases ex
        | none =>
          rw [hme] at ex
          cases ex
          obtain ⟨fd', ek'⟩ := hT e' he'
          exact ⟨2 * n, He.fAd K e'.d.at_, fd', e'.ps, ih e' he' fd' ek', hr0, ek'.mgx hme, ek'.fn.kp, ek'.bind⟩
      · intro k m f ar hp
        obtain ⟨e', he', ex⟩ := List.mem_filterMap.mp hp
        cases hme : e'.me with
        | none => rw [hme] at ex; cases ex
        | some q =>
          obtain ⟨x, k', m'⟩ := q
          rw [hme] at ex
          dsimp only at ex
          split at ex
          · cases ex
          · rename_i hne
            cases ex
            obtain ⟨fd', ek'⟩ := hT e' he'
            obtain ⟨hkw, C, hC, hcl, hmt, _⟩ := ek'.me _ _ _ hme
            have hb := ek'.bind
            rw [hkw] at hb
            exact ⟨C, 2 * n, He.fAd K e'.d.at_, fd', e'.ps, hC, hcl, hmt hne, ih e' he' fd' ek', hr0, hb⟩
      · intro x k f ar hp
        obtain ⟨e', he', ex⟩ := List.mem_filterMap.mp hp
        cases hme : e'.me with
        | none => rw [hme] at ex; cases ex
        | some q =>
          obtain ⟨x', k', m'⟩ := q
          rw [hme] at ex
          dsimp only at ex
          split at ex
          · rename_i heq
            cases ex
            obtain ⟨fd', ek'⟩ := hT e' he'
            obtain ⟨hkw, C, hC, hcl, _, hmk⟩ := ek'.me _ _ _ hme
            have hb := ek'.bind
            rw [hkw] at hb
            exact ⟨C, 2 * n, He.fAd K e'.d.at_, fd', e'.ps, hC, (hmk heq).1, (hmk heq).2, ih e' he' fd' ek', hr, hb⟩
          · cases ex
    · unfold startE L2.start
      rw [e2]
      exact re_start rd _
    · refine wpCs_mono (callN_mono PP n) _ (K := rtEnds (up K cl m H Q) noX) ⟨?_, fun _ _ z => z, ?_, ?_, fun _ _ z => z⟩ h2
      · exact fun ρ S h m' σ' H' le R' re' => h m' H' .non le R' .non
      · exact fun _ _ z => z.elim
      · exact fun _ _ z => z.elim
/-- the law's own promise -/
theorem law_sp {K : Fg} {cl : Cl} {F : Sem} {f : Nat} {H : Hp} {a : Addr} {ns : List Int} (hO : Only H) (hS : SqL K H a (ns.map V.int)) (h : F f [.fl (ns.map D.int)] [] (fun d _ => d = .bl true) noX) (hF : SemMono F) :
    spOf K cl F f 1 [.ref a] H (fun v _ => v = .bl true) fun _ _ _ => False := by
  have hp : PersL K H a (ns.map V.int) := by
    rcases hS with (h | ⟨o, h⟩) | h
    · rcases hO a with z | ⟨o, xs, z⟩
      · rw [z] at h; cases h
      · rw [z] at h; cases h
    · exact .inl ⟨o, h⟩
    · exact .inr h
  have hr : ∀ ns : List Int, RDs K [] H (ns.map D.int) (ns.map V.int) := fun ns => by
    induction ns with
    | nil => exact .nil
    | cons n ns ih => exact .cons (.int n) ih
  refine ⟨[], [], [.fl (ns.map D.int)], ⟨rfl, fun i j a h => by simp at h, fun n a o h => by simp at h⟩, .cons (.fl hp (hr ns)) .nil, rfl, hF _ _ _ _ _ _ _ (fun d S q m' H' v le R' rd => ?_) (fun _ _ z => z) h⟩
  subst q
  exact bl_of rd
end Mn

/-! The end of a law: the head's facts, the module's constants. -/
namespace Mn
open PySem PySem.Spec PyProof.Rows L2
def toDv : D → He.Dv
  | .bl b => .bl b
  | .int i => .int i
  | .str x => .str x
  | _ => .non
def scalB : D → Bool
  | .non => true | .bl _ => true | .int _ => true | .str _ => true | _ => false
/-- a constant of the module stands as it is said to -/
def cstOk (K : Fg) (x : Str) : D → Bool
  | .int i => (He.Fa.int x i).ok K
  | .str s => (He.Fa.str x s).ok K
  | .tup l => l.all scalB && (He.Fa.glo x).ok K && He.tupB K x (l.map toDv)
  | _ => false
theorem rds_scal {K : Fg} {m : List Addr} {H : Hp} : ∀ {l : List D}, l.all scalB = true → RDs K m H l ((l.map toDv).map (He.Dv.v K))
  | [], _ => .nil
  | d :: l, h => by
    rw [List.all_cons, Bool.and_eq_true] at h
    refine .cons ?_ (rds_scal h.2)
    cases d <;> first | (cases h.1; done) | constructor
theorem cst_ok {K : Fg} {h : Heap} {mg : Str → Option Value} (X : K.In h) (G : h.Ns mainGlobals mg) {x : Str} {d : D} (c : cstOk K x d = true) : ∃ u v, mg x = some u ∧ RelV v u ∧ ∀ m H, RD K m H d v := by
  cases d with
  | int i =>
    obtain ⟨t, e⟩ := He.int_ok X G (x := x) (i := i) c
    exact ⟨_, .int i, e, ⟨t, rfl⟩, fun m H => .int i⟩
  | str s =>
    obtain ⟨t, e⟩ := He.str_ok X G (x := x) (z := s) c
    exact ⟨_, .str s, e, ⟨t, rfl⟩, fun m H => .str s⟩
  | tup l =>
    obtain ⟨c1, c2, c3⟩ := and3 c
    exact ⟨_, .ref (He.ga K x), He.glo_ok X G c2, rfl, fun m H => .tup (He.tupB_ok c3 H) (rds_scal c1)⟩
  | _ => cases c
def exB (csts : List (Str × D)) (K : Fg) : Bool := csts.all fun p => cstOk K p.1 p.2
/-- the classes by number -/
def clOf (K : Fg) (cs : List Str) : Cl := fun k => cs[k]?.map (He.ga K)
def fldFa (cs : List Str) (flds : List (Nat × Str)) : List He.Fa := flds.flatMap fun p => match cs[p.1]? with
  | some x => [He.Fa.cls x, He.Fa.noat x p.2]
  | none => [He.Fa.free "None"]
theorem glb_of {K : Fg} {h : Heap} {mg : Str → Option Value} (X : K.In h) (G : h.Ns mainGlobals mg) {csts : List (Str × D)} {free : List Str} {cs : List Str} {flds : List (Nat × Str)} (c : exB csts K = true) (hf : ∀ x ∈ free, (He.Fa.free x).ok K = true) (hn : ∀ p ∈ flds, p.1 < cs.length) (ha : ∀ f ∈ fldFa cs flds, f.ok K = true) : Glb K mg (clOf K cs) csts free flds :=
  ⟨fun x d hx => cst_ok X G (List.all_eq_true.mp c (x, d) hx), fun x hx => He.free_ok X G (hf x hx), fun k f hk => by
    have hl : k < cs.length := hn _ hk
    have e : cs[k]? = some cs[k] := List.getElem?_eq_getElem hl
    refine ⟨He.ga K cs[k], by unfold clOf; rw [e]; rfl, He.cls_ok (ha _ (List.mem_flatMap.mpr ⟨(k, f), hk, ?_⟩)), He.noat_ok (ha _ (List.mem_flatMap.mpr ⟨(k, f), hk, ?_⟩))⟩
    · dsimp only
      rw [e]
      exact List.mem_cons_self
    · dsimp only
      rw [e]
      exact List.mem_cons_of_mem _ List.mem_cons_self⟩
/-! ### the Hook: the facts by names, and one more Bool -/
def obsM (n : Nat) (fa : List He.Fa) (ex : Fg → Bool) (fn : List He.DefD) (g : Addr → Option Obj) : He.AlD :=
  (ex (He.frG g (He.asD g n)) && (He.obsD fa fn (He.frG g (He.asD g n))).1, (He.obsD fa fn (He.frG g (He.asD g n))).2)
theorem saysM {n : Nat} {fa : List He.Fa} {ex : Fg → Bool} {fn : List He.DefD} {g : Addr → Option Obj} (e : obsM n fa ex fn g = He.valD fn) : ex (He.frG g (He.asD g n)) = true ∧ He.SaysD fa fn (He.frG g (He.asD g n)) := by
  unfold obsM at e
  generalize He.frG g (He.asD g n) = K at e ⊢
  have e1 : (ex K && (He.obsD fa fn K).1) = true := congrArg (fun z : He.AlD => z.1) e
  have e2 : (He.obsD fa fn K).2 = (He.valD fn).2 := by
    have e3 := congrArg (fun z : He.AlD => z.2) e
    exact e3
  obtain ⟨h1, h2⟩ := and2 e1
  exact ⟨h1, Prod.ext h2 e2⟩
def hookM (n : Nat) (fa : List He.Fa) (ex : Fg → Bool) (fn : List He.DefD) : PySem.W.Hook where
  α := He.AlD
  obs := fun s => obsM n fa ex fn s.heap.get?
  val := fun _ => He.valD fn
  says := fun _ h => ∃ K : Fg, K.In h ∧ ex K = true ∧ He.SaysD fa fn K
  of := fun _ _ e => ⟨_, He.frG_in, saysM e⟩
  keeps := fun _ _ _ ⟨K, hK, c⟩ k => ⟨K, PySem.W.Frag.In.keeps hK k, c⟩
theorem obsM_eq {n : Nat} {fa : List He.Fa} {ex : Fg → Bool} {fn : List He.DefD} {g : Addr → Option Obj} {s : Shared} (h : ∀ a, g a = s.heap.get? a) : obsM n fa ex fn g = (hookM n fa ex fn).obs s := by
  have e : g = s.heap.get? := funext h
  rw [e] <;> rfl
/-- the law's def keeps its promise -/
theorem law_fn {P : Program} {w : World} {K : Fg} {mg : Str → Option Value} {cl : Cl} {PP : Prog} {tab : List Ent} {csts : List (Str × D)} {free : List Str} {flds : List (Nat × Str)} (G : Glb K mg cl csts free flds) (hT : ∀ e ∈ tab, ∃ fd, EntOk K mg cl PP tab csts free flds e fd) (n : Nat) {e : Ent} (he : e ∈ tab) {fd : FuncData} (ek : EntOk K mg cl PP tab csts free flds e fd)
    (base : Heap) : FnOk P w K mg base CX0 (2 * n) (He.fAd K e.d.at_) fd e.ps (spOf K cl (callN PP n) e.f e.ps.length) := fn_all G hT n e he fd ek
/-- a def with one keyword-only parameter -/
theorem kw_bind {K : Fg} {name qual : Str} {params : Arguments} {body : List Stmt} {scope : Scope} {f : Addr} {fd : FuncData} {ps : List Str} {nm : Str} {v : V} {d : D} (F : FunD K name qual params body scope [] [(nm, v)] f fd) (n : Nat) (hn : n + 1 = ps.length) (hd : ∀ m H, RD K m H d v)
    (h1 : ∀ (D : Addr) (doc pm : Value) (an : Option Addr) (cdv ct : Value) (us : List Value) (k : Value), us.length = n → KwChain D [(nm, k)] (bindArgs (PySem.W.fnOf name qual params body scope .none (.ref D) doc pm an cdv ct) ⟨us, []⟩) (ps.zip (us ++ [k])))
    (h2 : ∀ (D : Addr) (doc pm : Value) (an : Option Addr) (cdv ct : Value) (us : List Value) (k : Value), us.length = n → bindArgs (PySem.W.fnOf name qual params body scope .none (.ref D) doc pm an cdv ct) ⟨us, [(nm, k)]⟩ = pure (ps.zip (us ++ [k]))) :
    (∃ dv ds, Vals [dv] ds ∧ Binds K fd ps ds ∧ ∀ m H, RD K m H d dv) ∧ KBn K fd ps (ps.length - 1) [nm] (fun us ws => us ++ ws) (fun vs zs => vs ++ zs) := by
  have e1 : ps.length - 1 = n := by omega
  rw [e1]
  refine ⟨?_, ?_⟩
  · obtain ⟨ds, hv, hb⟩ := FunD.binds0 (ps := ps) F n (by simp) (by simpa using hn) fun D doc pm an cdv ct us ks hl hk => by
      match ks, hk with
      | [k], _ => exact h1 D doc pm an cdv ct us k hl
    exact ⟨v, ds, hv, hb, hd⟩
  · obtain ⟨mv, hb⟩ := FunD.kbinds0 (ps := ps) F n [nm] [] (fun a _ c => a ++ c) (by simp) (fun q hq => by cases hq) (fun a _ c => a.append c) fun D doc pm an cdv ct us mv ws hl hm hw => by
      match ws, hw with
      | [k], _ =>
        cases mv with
        | nil => exact h2 D doc pm an cdv ct us k hl
        | cons _ _ => cases hm
    exact hb
end Mn

namespace Mn.Hd
open PySem PySem.Spec PyProof.Rows L2
def tp (i : Nat) : Stmt := PySem.Challenge.pw_heapwright_k09_pair_put_and_joined.main.body.getD i (.Pass ⟨0, 0, 0, 0⟩)
def inCls (s : Stmt) (j : Nat) : Stmt := match s with
  | .ClassDef _ _ _ b _ _ _ _ _ _ _ => b.getD j (.Pass ⟨0, 0, 0, 0⟩)
  | _ => .Pass ⟨0, 0, 0, 0⟩
def csts : List (Str × D) := [("MOST_TICKET", .int 1000000)]
def free : List Str := (["any", "bool", "dict", "enumerate", "int", "isinstance", "len", "list", "max", "min", "range", "sorted", "tuple"] : List Str)
def cs : List Str := (["Table"] : List Str)
def flds : List (Nat × Str) := [(0, "heap_kind"), (0, "key_at"), (0, "kids"), (0, "marks"), (0, "ranks"), (0, "roots"), (0, "ups")]
def d_0 : He.DefD := ⟨("is_whole", none), "is_whole", "is_whole", defArgs (tp 8), defBody (tp 8), defScope (tp 8), [], []⟩
def d_1 : He.DefD := ⟨("trees_of", none), "trees_of", "trees_of", defArgs (tp 10), defBody (tp 10), defScope (tp 10), [], []⟩
def d_2 : He.DefD := ⟨("kids_of", none), "kids_of", "kids_of", defArgs (tp 11), defBody (tp 11), defScope (tp 11), [], []⟩
def d_3 : He.DefD := ⟨("Table", some "__init__"), "__init__", "Table.__init__", defArgs (inCls (tp 12) 0), defBody (inCls (tp 12) 0), defScope (inCls (tp 12) 0), [], []⟩
def d_4 : He.DefD := ⟨("Table", some "add"), "add", "Table.add", defArgs (inCls (tp 12) 1), defBody (inCls (tp 12) 1), defScope (inCls (tp 12) 1), [], []⟩
def d_5 : He.DefD := ⟨("Table", some "item"), "item", "Table.item", defArgs (inCls (tp 12) 2), defBody (inCls (tp 12) 2), defScope (inCls (tp 12) 2), [], []⟩
def d_6 : He.DefD := ⟨("Table", some "is_less"), "is_less", "Table.is_less", defArgs (inCls (tp 12) 3), defBody (inCls (tp 12) 3), defScope (inCls (tp 12) 3), [], []⟩
def d_7 : He.DefD := ⟨("Table", some "sorted_two"), "sorted_two", "Table.sorted_two", defArgs (inCls (tp 12) 4), defBody (inCls (tp 12) 4), defScope (inCls (tp 12) 4), [], []⟩
def d_8 : He.DefD := ⟨("Table", some "opened"), "opened", "Table.opened", defArgs (inCls (tp 12) 5), defBody (inCls (tp 12) 5), defScope (inCls (tp 12) 5), [], []⟩
def d_9 : He.DefD := ⟨("Table", some "set_rank"), "set_rank", "Table.set_rank", defArgs (inCls (tp 12) 6), defBody (inCls (tp 12) 6), defScope (inCls (tp 12) 6), [], []⟩
def d_10 : He.DefD := ⟨("Table", some "rank"), "rank", "Table.rank", defArgs (inCls (tp 12) 7), defBody (inCls (tp 12) 7), defScope (inCls (tp 12) 7), [], []⟩
def d_11 : He.DefD := ⟨("Table", some "hang"), "hang", "Table.hang", defArgs (inCls (tp 12) 8), defBody (inCls (tp 12) 8), defScope (inCls (tp 12) 8), [], []⟩
def d_12 : He.DefD := ⟨("Table", some "tree"), "tree", "Table.tree", defArgs (inCls (tp 12) 9), defBody (inCls (tp 12) 9), defScope (inCls (tp 12) 9), [], []⟩
def d_13 : He.DefD := ⟨("Table", some "shape"), "shape", "Table.shape", defArgs (inCls (tp 12) 10), defBody (inCls (tp 12) 10), defScope (inCls (tp 12) 10), [], []⟩
def d_14 : He.DefD := ⟨("table_of", none), "table_of", "table_of", defArgs (tp 13), defBody (tp 13), defScope (tp 13), [], []⟩
def d_15 : He.DefD := ⟨("least", none), "least", "least", defArgs (tp 15), defBody (tp 15), defScope (tp 15), [], []⟩
def d_16 : He.DefD := ⟨("meet", none), "meet", "meet", defArgs (tp 17), defBody (tp 17), defScope (tp 17), [], []⟩
def d_17 : He.DefD := ⟨("swap_sides", none), "swap_sides", "swap_sides", defArgs (tp 18), defBody (tp 18), defScope (tp 18), [], []⟩
def d_18 : He.DefD := ⟨("set_root", none), "set_root", "set_root", defArgs (tp 19), defBody (tp 19), defScope (tp 19), [], []⟩
def d_19 : He.DefD := ⟨("replace", none), "replace", "replace", defArgs (tp 20), defBody (tp 20), defScope (tp 20), [], []⟩
def d_20 : He.DefD := ⟨("joined_sides", none), "joined", "joined", defArgs (tp 21), defBody (tp 21), defScope (tp 21), [], []⟩
def d_21 : He.DefD := ⟨("taken_out", none), "taken_out", "taken_out", defArgs (tp 23), defBody (tp 23), defScope (tp 23), [], []⟩
def d_22 : He.DefD := ⟨("lowered_sides", none), "lowered", "lowered", defArgs (tp 24), defBody (tp 24), defScope (tp 24), [], []⟩
def d_23 : He.DefD := ⟨("tie", none), "tie", "tie", defArgs (tp 27), defBody (tp 27), defScope (tp 27), [], []⟩
def d_24 : He.DefD := ⟨("freed", none), "freed", "freed", defArgs (tp 28), defBody (tp 28), defScope (tp 28), [], []⟩
def d_25 : He.DefD := ⟨("loosen", none), "loosen", "loosen", defArgs (tp 29), defBody (tp 29), defScope (tp 29), [], []⟩
def d_26 : He.DefD := ⟨("tied_all", none), "tied_all", "tied_all", defArgs (tp 30), defBody (tp 30), defScope (tp 30), [], []⟩
def d_27 : He.DefD := ⟨("gathered", none), "gathered", "gathered", defArgs (tp 31), defBody (tp 31), defScope (tp 31), [], []⟩
def d_28 : He.DefD := ⟨("pair_taken_out", none), "pair_taken_out", "pair_taken_out", defArgs (tp 32), defBody (tp 32), defScope (tp 32), [], []⟩
def d_29 : He.DefD := ⟨("pair_lowered", none), "pair_lowered", "pair_lowered", defArgs (tp 33), defBody (tp 33), defScope (tp 33), [], []⟩
def d_30 : He.DefD := ⟨("by_ranks", none), "by_ranks", "by_ranks", defArgs (tp 34), defBody (tp 34), defScope (tp 34), [], []⟩
def d_31 : He.DefD := ⟨("count_joined", none), "count_joined", "count_joined", defArgs (tp 35), defBody (tp 35), defScope (tp 35), [], []⟩
def d_32 : He.DefD := ⟨("count_up", none), "count_up", "count_up", defArgs (tp 36), defBody (tp 36), defScope (tp 36), [], []⟩
def d_33 : He.DefD := ⟨("change", none), "change", "change", defArgs (tp 37), defBody (tp 37), defScope (tp 37), [], []⟩
def d_34 : He.DefD := ⟨("count_taken_out", none), "count_taken_out", "count_taken_out", defArgs (tp 38), defBody (tp 38), defScope (tp 38), [], []⟩
def d_35 : He.DefD := ⟨("cut_off", none), "cut_off", "cut_off", defArgs (tp 39), defBody (tp 39), defScope (tp 39), [], []⟩
def d_36 : He.DefD := ⟨("cleared", none), "cleared", "cleared", defArgs (tp 40), defBody (tp 40), defScope (tp 40), [], []⟩
def d_37 : He.DefD := ⟨("cut_taken_out", none), "cut_taken_out", "cut_taken_out", defArgs (tp 41), defBody (tp 41), defScope (tp 41), [], []⟩
def d_38 : He.DefD := ⟨("all_joined", none), "all_joined", "all_joined", defArgs (tp 43), defBody (tp 43), defScope (tp 43), [], []⟩
def d_39 : He.DefD := ⟨("gone", none), "gone", "gone", defArgs (tp 44), defBody (tp 44), defScope (tp 44), [], []⟩
def d_40 : He.DefD := ⟨("moved", none), "moved", "moved", defArgs (tp 45), defBody (tp 45), defScope (tp 45), [], []⟩
def d_41 : He.DefD := ⟨("joined_deeds", none), "joined", "joined", defArgs (tp 46), defBody (tp 46), defScope (tp 46), [], []⟩
def d_42 : He.DefD := ⟨("put", none), "put", "put", defArgs (tp 48), defBody (tp 48), defScope (tp 48), [], []⟩
def d_43 : He.DefD := ⟨("taken", none), "taken", "taken", defArgs (tp 49), defBody (tp 49), defScope (tp 49), [], []⟩
def d_44 : He.DefD := ⟨("check_ticket", none), "check_ticket", "check_ticket", defArgs (tp 50), defBody (tp 50), defScope (tp 50), [], []⟩
def d_45 : He.DefD := ⟨("lowered_deeds", none), "lowered", "lowered", defArgs (tp 51), defBody (tp 51), defScope (tp 51), [], []⟩
def d_46 : He.DefD := ⟨("dropped", none), "dropped", "dropped", defArgs (tp 53), defBody (tp 53), defScope (tp 53), [], []⟩
def d_47 : He.DefD := ⟨("_law_stir", none), "_law_stir", "_law_stir", defArgs (tp 55), defBody (tp 55), defScope (tp 55), [], []⟩
def d_48 : He.DefD := ⟨("_law_source", none), "_law_source", "_law_source", defArgs (tp 56), defBody (tp 56), defScope (tp 56), [], []⟩
def d_49 : He.DefD := ⟨("_law_take", none), "_law_take", "_law_take", defArgs (tp 57), defBody (tp 57), defScope (tp 57), [], []⟩
def d_50 : He.DefD := ⟨("_law_one_of", none), "_law_one_of", "_law_one_of", defArgs (tp 58), defBody (tp 58), defScope (tp 58), [], []⟩
def d_51 : He.DefD := ⟨("_law_sort", none), "_law_sort", "_law_sort", defArgs (tp 59), defBody (tp 59), defScope (tp 59), [], []⟩
def d_52 : He.DefD := ⟨("_law_same", none), "_law_same", "_law_same", defArgs (tp 60), defBody (tp 60), defScope (tp 60), [], []⟩
def d_53 : He.DefD := ⟨("_law_key", none), "_law_key", "_law_key", defArgs (tp 61), defBody (tp 61), defScope (tp 61), [], []⟩
def d_54 : He.DefD := ⟨("_law_tie", none), "_law_tie", "_law_tie", defArgs (tp 62), defBody (tp 62), defScope (tp 62), [], []⟩
def d_55 : He.DefD := ⟨("_law_trees", none), "_law_trees", "_law_trees", defArgs (tp 63), defBody (tp 63), defScope (tp 63), [], []⟩
def d_56 : He.DefD := ⟨("_law_kids", none), "_law_kids", "_law_kids", defArgs (tp 64), defBody (tp 64), defScope (tp 64), [], []⟩
def d_57 : He.DefD := ⟨("_law_items", none), "_law_items", "_law_items", defArgs (tp 65), defBody (tp 65), defScope (tp 65), [], []⟩
def d_58 : He.DefD := ⟨("_law_deed", none), "_law_deed", "_law_deed", defArgs (tp 66), defBody (tp 66), defScope (tp 66), [], []⟩
def d_59 : He.DefD := ⟨("_law_pair_join", none), "_law_pair_join", "_law_pair_join", defArgs (tp 67), defBody (tp 67), defScope (tp 67), [], []⟩
def d_60 : He.DefD := ⟨("_law_by_program", none), "_law_by_program", "_law_by_program", defArgs (tp 68), defBody (tp 68), defScope (tp 68), [], []⟩
def d_61 : He.DefD := ⟨("_law_grown", none), "_law_grown", "_law_grown", defArgs (tp 69), defBody (tp 69), defScope (tp 69), [], []⟩
def d_62 : He.DefD := ⟨("law", none), "law", "law", defArgs (tp 70), defBody (tp 70), defScope (tp 70), [], []⟩
def dd : List He.DefD := [d_0, d_1, d_2, d_3, d_4, d_5, d_6, d_7, d_8, d_9, d_10, d_11, d_12, d_13, d_14, d_15, d_16, d_17, d_18, d_19, d_20, d_21, d_22, d_23, d_24, d_25, d_26, d_27, d_28, d_29, d_30, d_31, d_32, d_33, d_34, d_35, d_36, d_37, d_38, d_39, d_40, d_41, d_42, d_43, d_44, d_45, d_46, d_47, d_48, d_49, d_50, d_51, d_52, d_53, d_54, d_55, d_56, d_57, d_58, d_59, d_60, d_61, d_62]
def faM : List He.Fa := [.free "None", .free "None", .free "None", .mkr "Table", .meth "Table" "add", .meth "Table" "item", .meth "Table" "is_less", .meth "Table" "sorted_two", .meth "Table" "opened", .meth "Table" "set_rank", .meth "Table" "rank", .meth "Table" "hang", .meth "Table" "tree", .meth "Table" "shape", .free "None", .free "None", .free "None", .free "None", .free "None", .free "None", .free "None", .free "None", .free "None", .free "None", .free "None", .free "None", .free "None", .free "None", .free "None", .free "None", .free "None", .free "None", .free "None", .free "None", .free "None", .free "None", .free "None", .free "None", .free "None", .free "None", .free "None", .free "None", .free "None", .free "None", .free "None", .free "None", .free "None", .free "None", .free "None", .free "None", .free "None", .free "None", .free "None", .free "None", .free "None", .free "None", .free "None", .free "None", .free "None", .free "None", .free "None", .free "None", .free "None"]
def faC : List He.Fa := [.free "None", .free "None", .free "None", .cls "Table", .cls "Table", .cls "Table", .cls "Table", .cls "Table", .cls "Table", .cls "Table", .cls "Table", .cls "Table", .cls "Table", .cls "Table", .free "None", .free "None", .free "None", .free "None", .free "None", .free "None", .free "None", .free "None", .free "None", .free "None", .free "None", .free "None", .free "None", .free "None", .free "None", .free "None", .free "None", .free "None", .free "None", .free "None", .free "None", .free "None", .free "None", .free "None", .free "None", .free "None", .free "None", .free "None", .free "None", .free "None", .free "None", .free "None", .free "None", .free "None", .free "None", .free "None", .free "None", .free "None", .free "None", .free "None", .free "None", .free "None", .free "None", .free "None", .free "None", .free "None", .free "None", .free "None", .free "None"]
def fa : List He.Fa := dd.map (fun d => He.Fa.glo d.at_.1) ++ (free.map He.Fa.free ++ (fldFa cs flds ++ (faM ++ faC)))
abbrev RR : PySem.W.OpenRow := PySem.W.OpenLaw.row PySem.Challenge.rw_heapwright_k09_pair_put_and_joined
abbrev hk : PySem.W.Hook := hookM 5 fa (exB csts) dd
def ob (s : PySem.W.SharedT) : He.AlD := obsM 5 fa (exB csts) dd (HandSHeadRun.getT s)
theorem ob_eq (s : PySem.W.SharedT) : ob s = hk.obs s.abs := obsM_eq (HandSHeadRun.getT_eq s)
def loose : List PySem.Str := (["HeapError", "Empty", "Twice", "NoTicket", "Higher", "MOST_TICKET", "is_whole", "trees_of", "kids_of", "Table", "table_of", "least", "meet", "swap_sides", "set_root", "replace", "joined", "joined_sides", "taken_out", "lowered", "lowered_sides", "tie", "freed", "loosen", "tied_all", "gathered", "pair_taken_out", "pair_lowered", "by_ranks", "count_joined"] : List Str) ++ (["count_up", "change", "count_taken_out", "cut_off", "cleared", "cut_taken_out", "all_joined", "gone", "moved", "joined_deeds", "put", "taken", "check_ticket", "lowered_deeds", "dropped", "_law_stir", "_law_source", "_law_take", "_law_one_of", "_law_sort", "_law_same", "_law_key", "_law_tie", "_law_trees", "_law_kids", "_law_items", "_law_deed", "_law_pair_join", "_law_by_program", "_law_grown"] : List Str)
theorem run (w : World) : HandSHeadRun.RunEq RR (PySem.W.view RR.prog [70]) hk ob 4000 loose w := by
  intro os
  kernel_rfl
end Mn.Hd

/-! Words for proofs over the small language. -/
namespace Mn
open PySem
/-- a for by what holds between its turns -/
theorem for_inv {t : Tg} {G : Store → Prop} {b : Ends → Env → Store → Prop} {K : Ends} (hb : BMono b) (I : Env → Store → Prop) (hG : ∀ ρ S, I ρ S → G S) (hend : ∀ ρ S, I ρ S → K.nx ρ S) : ∀ (l : List D),
    (∀ d ∈ l, ∀ ρ S, I ρ S → ∃ ρ1, t.bind d ρ = some ρ1 ∧ b { K with nx := I, ct := I, bk := K.nx } ρ1 S) → ∀ ρ S, I ρ S → wpFor t G b K l ρ S
  | [], _, ρ, S, h => ⟨hG ρ S h, hend ρ S h⟩
  | d :: r, hs, ρ, S, h => by
    refine ⟨hG ρ S h, ?_⟩
    obtain ⟨ρ1, e, q⟩ := hs d List.mem_cons_self ρ S h
    rw [e]
    exact hb { K with nx := I, ct := I, bk := K.nx } _ _ _ ⟨fun ρ S h => for_inv hb I hG hend r (fun d hd => hs d (List.mem_cons_of_mem _ hd)) ρ S h, fun _ _ z => z, fun _ _ z => z, fun ρ S h => for_inv hb I hG hend r (fun d hd => hs d (List.mem_cons_of_mem _ hd)) ρ S h, fun _ _ z => z⟩ q
theorem bmono {P : Prog} {n : Nat} (b : Cs) : BMono (wpCs (callN P n) b) := fun K K' ρ S h q => wpCs_mono (callN_mono P n) b h q
/-- all but the object at s stays; the store may grow -/
def Fr (s : Nat) (S S' : Store) : Prop := S.length ≤ S'.length ∧ ∀ j, j < S.length → j ≠ s → S'[j]? = S[j]?
theorem Fr.refl (s : Nat) (S : Store) : Fr s S S := ⟨Nat.le_refl _, fun _ _ _ => rfl⟩
theorem Fr.trans {s : Nat} {S S1 S2 : Store} (a : Fr s S S1) (b : Fr s S1 S2) : Fr s S S2 := ⟨Nat.le_trans a.1 b.1, fun j h1 h2 => by rw [b.2 j (Nat.lt_of_lt_of_le h1 a.1) h2, a.2 j h1 h2]⟩
theorem Fr.set {s : Nat} {S : Store} (o : Ob) : Fr s S (S.set s o) := ⟨by rw [List.length_set]; exact Nat.le_refl _, fun j _ h2 => by rw [List.getElem?_set_ne (Ne.symm h2)]⟩
theorem Fr.push {s : Nat} {S : Store} (T : List Ob) : Fr s S (S ++ T) := ⟨by rw [List.length_append]; omega, fun j h1 _ => by rw [List.getElem?_append_left h1]⟩
/-- what is asked of a thing whose type is asked for -/
def okT (S : Store) : D → Prop
  | .ref n => ∃ l, lst? S n = some l
  | _ => True
theorem isL_ok {S : Store} {d : D} (h : okT S d) : ∃ b, isL S d = some b := by
  cases d with
  | ref n =>
    obtain ⟨l, e⟩ := h
    exact ⟨true, by simp [isL, e]⟩
  | _ => exact ⟨_, rfl⟩
theorem lst_lt {S : Store} {n : Nat} {l : List D} (h : lst? S n = some l) : n < S.length ∧ S[n]? = some (.lst l) := by
  unfold lst? at h
  split at h
  · rename_i l' g
    cases h
    exact ⟨(List.getElem?_eq_some_iff.mp g).1, g⟩
  · cases h
theorem lst_of {S : Store} {n : Nat} {l : List D} (h : S[n]? = some (.lst l)) : lst? S n = some l := by
  unfold lst?
  rw [h]
theorem Fr.lst {s n : Nat} {S S' : Store} {l : List D} (f : Fr s S S') (h : lst? S n = some l) (hn : n ≠ s) : lst? S' n = some l := by
  obtain ⟨h1, h2⟩ := lst_lt h
  exact lst_of (by rw [f.2 n h1 hn]; exact h2)
/-! ### numbers -/
theorem Sm.of_le {i : Int} (h1 : -(10 ^ 60) ≤ i) (h2 : i ≤ 10 ^ 60) : Sm i := by
  unfold Sm
  have : i.natAbs ≤ 10 ^ 60 := by omega
  exact Nat.lt_of_le_of_lt this (by decide +kernel)
theorem Sm.of_nat {i : Int} {a : Nat} (h : i.natAbs < 2 ^ a) (ha : a ≤ 4000) : Sm i := Nat.lt_of_lt_of_le h (Nat.pow_le_pow_right (by decide) ha)
end Mn

namespace Mn
open PySem
abbrev f_is_whole : Nat := 0
abbrev f_trees_of : Nat := 1
abbrev f_kids_of : Nat := 2
abbrev f_Table_init__ : Nat := 3
abbrev f_Table_add : Nat := 4
abbrev f_Table_item : Nat := 5
abbrev f_Table_is_less : Nat := 6
abbrev f_Table_sorted_two : Nat := 7
abbrev f_Table_opened : Nat := 8
abbrev f_Table_set_rank : Nat := 9
abbrev f_Table_rank : Nat := 10
abbrev f_Table_hang : Nat := 11
abbrev f_Table_tree : Nat := 12
abbrev f_Table_shape : Nat := 13
abbrev f_table_of : Nat := 14
abbrev f_least : Nat := 15
abbrev f_meet : Nat := 16
abbrev f_swap_sides : Nat := 17
abbrev f_set_root : Nat := 18
abbrev f_replace : Nat := 19
abbrev f_joined_sides : Nat := 20
abbrev f_taken_out : Nat := 21
abbrev f_lowered_sides : Nat := 22
abbrev f_tie : Nat := 23
abbrev f_freed : Nat := 24
abbrev f_loosen : Nat := 25
abbrev f_tied_all : Nat := 26
abbrev f_gathered : Nat := 27
abbrev f_pair_taken_out : Nat := 28
abbrev f_pair_lowered : Nat := 29
abbrev f_by_ranks : Nat := 30
abbrev f_count_joined : Nat := 31
abbrev f_count_up : Nat := 32
abbrev f_change : Nat := 33
abbrev f_count_taken_out : Nat := 34
abbrev f_cut_off : Nat := 35
abbrev f_cleared : Nat := 36
abbrev f_cut_taken_out : Nat := 37
abbrev f_all_joined : Nat := 38
abbrev f_gone : Nat := 39
abbrev f_moved : Nat := 40
abbrev f_joined_deeds : Nat := 41
abbrev f_put : Nat := 42
abbrev f_taken : Nat := 43
abbrev f_check_ticket : Nat := 44
abbrev f_lowered_deeds : Nat := 45
abbrev f_dropped : Nat := 46
abbrev f_law_stir : Nat := 47
abbrev f_law_source : Nat := 48
abbrev f_law_take : Nat := 49
abbrev f_law_one_of : Nat := 50
abbrev f_law_sort : Nat := 51
abbrev f_law_same : Nat := 52
abbrev f_law_key : Nat := 53
abbrev f_law_tie : Nat := 54
abbrev f_law_trees : Nat := 55
abbrev f_law_kids : Nat := 56
abbrev f_law_items : Nat := 57
abbrev f_law_deed : Nat := 58
abbrev f_law_pair_join : Nat := 59
abbrev f_law_by_program : Nat := 60
abbrev f_law_grown : Nat := 61
abbrev f_law : Nat := 62
def k_is_whole_0 : Cs := .cons (.ret (.and (.blt (.isi .int) (.cons (.v 0) .nil)) (.and (.not (.blt (.isi .bool) (.cons (.v 0) .nil))) (.chn .LtE .LtE (.v 1) (.v 0) (.v 2))))) .nil
def b_is_whole : Fn := ⟨3, 3, k_is_whole_0⟩
def k_trees_of_1 : Cs := .cons (.ret (.ite (.cmp .Eq (.v 1) (.tup .nil)) (.lst .nil) (.lst (.cons (.v 1) .nil)))) .nil
def k_trees_of_0a0 : Cs := .cons (.ret (.blt .list1 (.cons (.v 1) .nil))) .nil
def k_trees_of_0 : Cs := .cons (.cond (.cmp .In (.v 0) (.tup (.cons (.cst (.str "count")) (.cons (.cst (.str "cut")) .nil)))) k_trees_of_0a0 .nil) k_trees_of_1
def b_trees_of : Fn := ⟨2, 2, k_trees_of_0⟩
def k_kids_of_1 : Cs := .cons (.ret (.blt .list1 (.cons (.ix (.v 1) (.neg (.cst (.int 1)))) .nil))) .nil
def k_kids_of_0a0 : Cs := .cons (.ret (.blt .list1 (.cons (.sl (.v 1) (.cst (.int 1)) .no) .nil))) .nil
def k_kids_of_0 : Cs := .cons (.cond (.cmp .In (.v 0) (.tup (.cons (.cst (.str "left")) (.cons (.cst (.str "skew")) .nil)))) k_kids_of_0a0 .nil) k_kids_of_1
def b_kids_of : Fn := ⟨2, 2, k_kids_of_0⟩
def k_Table_init___6 : Cs := .cons (.setA 0 (.v 0) "roots" (.lst .nil)) .nil
def k_Table_init___5 : Cs := .cons (.setA 0 (.v 0) "ranks" (.dct .nil .nil)) k_Table_init___6
def k_Table_init___4 : Cs := .cons (.setA 0 (.v 0) "marks" (.dct .nil .nil)) k_Table_init___5
def k_Table_init___3 : Cs := .cons (.setA 0 (.v 0) "ups" (.dct .nil .nil)) k_Table_init___4
def k_Table_init___2 : Cs := .cons (.setA 0 (.v 0) "kids" (.dct .nil .nil)) k_Table_init___3
def k_Table_init___1 : Cs := .cons (.setA 0 (.v 0) "key_at" (.dct .nil .nil)) k_Table_init___2
def k_Table_init___0 : Cs := .cons (.setA 0 (.v 0) "heap_kind" (.v 1)) k_Table_init___1
def b_Table_init__ : Fn := ⟨2, 2, k_Table_init___0⟩
def k_Table_add_4 : Cs := .cons (.setIx (.attr 0 (.v 0) "ranks") (.v 3) (.cst (.int 1))) .nil
def k_Table_add_3 : Cs := .cons (.setIx (.attr 0 (.v 0) "ups") (.v 3) (.cst .non)) k_Table_add_4
def k_Table_add_2 : Cs := .cons (.setIx (.attr 0 (.v 0) "kids") (.v 3) (.ite (.cmp .In (.attr 0 (.v 0) "heap_kind") (.tup (.cons (.cst (.str "left")) (.cons (.cst (.str "skew")) .nil)))) (.lst (.cons (.cst .non) (.cons (.cst .non) .nil))) (.lst .nil))) k_Table_add_3
def k_Table_add_1 : Cs := .cons (.setIx (.attr 0 (.v 0) "key_at") (.v 3) (.v 2)) k_Table_add_2
def k_Table_add_0 : Cs := .cons (.asg (.tp (.cons (.nm 2) (.cons (.nm 3) .nil))) (.v 1)) k_Table_add_1
def b_Table_add : Fn := ⟨2, 4, k_Table_add_0⟩
def k_Table_item_0 : Cs := .cons (.ret (.tup (.cons (.ix (.attr 0 (.v 0) "key_at") (.v 1)) (.cons (.v 1) .nil)))) .nil
def b_Table_item : Fn := ⟨2, 2, k_Table_item_0⟩
def k_Table_is_less_0 : Cs := .cons (.ret (.cmp .Lt (.meth 0 "item" f_Table_item (.v 0) (.cons (.v 1) .nil)) (.meth 0 "item" f_Table_item (.v 0) (.cons (.v 2) .nil)))) .nil
def b_Table_is_less : Fn := ⟨3, 3, k_Table_is_less_0⟩
def k_Table_sorted_two_0 : Cs := .cons (.ret (.ite (.meth 0 "is_less" f_Table_is_less (.v 0) (.cons (.v 1) (.cons (.v 2) .nil))) (.tup (.cons (.v 1) (.cons (.v 2) .nil))) (.tup (.cons (.v 2) (.cons (.v 1) .nil))))) .nil
def b_Table_sorted_two : Fn := ⟨3, 3, k_Table_sorted_two_0⟩
def k_Table_opened_5 : Cs := .cons (.ret (.v 2)) .nil
def k_Table_opened_4a0 : Cs := .cons (.ex (.meth 0 "set_rank" f_Table_set_rank (.v 0) (.cons (.v 8) .nil))) .nil
def k_Table_opened_4 : Cs := .cons (.for_ (.nm 8) (.seq (.rev (.v 5))) k_Table_opened_4a0) k_Table_opened_5
def k_Table_opened_3a9 : Cs := .cons (.aug 3 .Add (.lc [10, 11] (.tp (.cons (.nm 10) (.cons (.nm 11) .nil))) (.enum (.v 9)) (.cmp .NotEq (.v 11) (.tup .nil)) (.tup (.cons (.v 11) (.cons (.v 8) (.cons (.v 10) .nil)))))) .nil
def k_Table_opened_3a8 : Cs := .cons (.ex (.bm .append (.v 5) (.cons (.v 8) .nil))) k_Table_opened_3a9
def k_Table_opened_3a7 : Cs := .cons (.setIx (.attr 0 (.v 0) "kids") (.v 8) (.bin .Mult (.lst (.cons (.cst .non) .nil)) (.blt .len (.cons (.v 9) .nil)))) k_Table_opened_3a8
def k_Table_opened_3a6 : Cs := .cons (.set 9 (.call f_kids_of (.cons (.attr 0 (.v 0) "heap_kind") (.cons (.v 4) .nil)))) k_Table_opened_3a7
def k_Table_opened_3a5a0 : Cs := .cons (.ex (.bm .append (.v 2) (.cons (.v 8) .nil))) .nil
def k_Table_opened_3a5b0 : Cs := .cons (.setIx (.ix (.attr 0 (.v 0) "kids") (.v 6)) (.v 7) (.v 8)) .nil
def k_Table_opened_3a5 : Cs := .cons (.cond (.cmp .Is (.v 6) (.cst .non)) k_Table_opened_3a5a0 k_Table_opened_3a5b0) k_Table_opened_3a6
def k_Table_opened_3a4 : Cs := .cons (.setIx (.attr 0 (.v 0) "marks") (.v 8) (.and (.cmp .Eq (.attr 0 (.v 0) "heap_kind") (.cst (.str "cut"))) (.ix (.v 4) (.cst (.int 1))))) k_Table_opened_3a5
def k_Table_opened_3a3 : Cs := .cons (.setIx (.attr 0 (.v 0) "ups") (.v 8) (.v 6)) k_Table_opened_3a4
def k_Table_opened_3a2 : Cs := .cons (.ex (.meth 0 "add" f_Table_add (.v 0) (.cons (.ix (.v 4) (.cst (.int 0))) .nil))) k_Table_opened_3a3
def k_Table_opened_3a1 : Cs := .cons (.set 8 (.ix (.ix (.v 4) (.cst (.int 0))) (.cst (.int 1)))) k_Table_opened_3a2
def k_Table_opened_3a0 : Cs := .cons (.asg (.tp (.cons (.nm 4) (.cons (.nm 6) (.cons (.nm 7) .nil)))) (.bm .popAt (.v 3) (.cons (.cst (.int 0)) .nil))) k_Table_opened_3a1
def k_Table_opened_3 : Cs := .cons (.whl (.cmp .NotEq (.v 3) (.lst .nil)) k_Table_opened_3a0) k_Table_opened_4
def k_Table_opened_2 : Cs := .cons (.set 5 (.lst .nil)) k_Table_opened_3
def k_Table_opened_1 : Cs := .cons (.set 3 (.lc [4] (.nm 4) (.seq (.call f_trees_of (.cons (.attr 0 (.v 0) "heap_kind") (.cons (.v 1) .nil)))) (.cst (.bl true)) (.tup (.cons (.v 4) (.cons (.cst .non) (.cons (.neg (.cst (.int 1))) .nil)))))) k_Table_opened_2
def k_Table_opened_0 : Cs := .cons (.set 2 (.lst .nil)) k_Table_opened_1
def b_Table_opened : Fn := ⟨2, 12, k_Table_opened_0⟩
def k_Table_set_rank_0a0 : Cs := .cons (.setIx (.attr 0 (.v 0) "ranks") (.v 1) (.bin .Add (.cst (.int 1)) (.meth 0 "rank" f_Table_rank (.v 0) (.cons (.ix (.ix (.attr 0 (.v 0) "kids") (.v 1)) (.cst (.int 1))) .nil)))) .nil
def k_Table_set_rank_0 : Cs := .cons (.cond (.cmp .Eq (.attr 0 (.v 0) "heap_kind") (.cst (.str "left"))) k_Table_set_rank_0a0 .nil) .nil
def b_Table_set_rank : Fn := ⟨2, 2, k_Table_set_rank_0⟩
def k_Table_rank_0 : Cs := .cons (.ret (.ite (.cmp .Is (.v 1) (.cst .non)) (.cst (.int 0)) (.ix (.attr 0 (.v 0) "ranks") (.v 1)))) .nil
def b_Table_rank : Fn := ⟨2, 2, k_Table_rank_0⟩
def k_Table_hang_1a0 : Cs := .cons (.setIx (.attr 0 (.v 0) "ups") (.v 3) (.v 1)) .nil
def k_Table_hang_1 : Cs := .cons (.cond (.cmp .IsNot (.v 3) (.cst .non)) k_Table_hang_1a0 .nil) .nil
def k_Table_hang_0 : Cs := .cons (.setIx (.ix (.attr 0 (.v 0) "kids") (.v 1)) (.v 2) (.v 3)) k_Table_hang_1
def b_Table_hang : Fn := ⟨4, 4, k_Table_hang_0⟩
def k_Table_tree_3 : Cs := .cons (.ret (.tup (.cons (.meth 0 "item" f_Table_item (.v 0) (.cons (.v 1) .nil)) (.cons (.v 3) .nil)))) .nil
def k_Table_tree_2a0 : Cs := .cons (.ret (.tup (.cons (.meth 0 "item" f_Table_item (.v 0) (.cons (.v 1) .nil)) (.cons (.ix (.attr 0 (.v 0) "marks") (.v 1)) (.cons (.v 3) .nil))))) .nil
def k_Table_tree_2 : Cs := .cons (.cond (.cmp .Eq (.attr 0 (.v 0) "heap_kind") (.cst (.str "cut"))) k_Table_tree_2a0 .nil) k_Table_tree_3
def k_Table_tree_1a0 : Cs := .cons (.ret (.bin .Add (.tup (.cons (.meth 0 "item" f_Table_item (.v 0) (.cons (.v 1) .nil)) .nil)) (.v 3))) .nil
def k_Table_tree_1 : Cs := .cons (.cond (.cmp .In (.attr 0 (.v 0) "heap_kind") (.tup (.cons (.cst (.str "left")) (.cons (.cst (.str "skew")) .nil)))) k_Table_tree_1a0 .nil) k_Table_tree_2
def k_Table_tree_0 : Cs := .cons (.set 3 (.blt .tuple1 (.cons (.lc [4] (.nm 4) (.seq (.ix (.attr 0 (.v 0) "kids") (.v 1))) (.cst (.bl true)) (.ite (.cmp .Is (.v 4) (.cst .non)) (.tup .nil) (.ix (.v 2) (.v 4)))) .nil))) k_Table_tree_1
def b_Table_tree : Fn := ⟨3, 5, k_Table_tree_0⟩
def k_Table_shape_7 : Cs := .cons (.ret (.ite (.cmp .NotEq (.v 6) (.tup .nil)) (.ix (.v 6) (.cst (.int 0))) (.tup .nil))) .nil
def k_Table_shape_6a0 : Cs := .cons (.ret (.v 6)) .nil
def k_Table_shape_6 : Cs := .cons (.cond (.cmp .In (.attr 0 (.v 0) "heap_kind") (.tup (.cons (.cst (.str "count")) (.cons (.cst (.str "cut")) .nil)))) k_Table_shape_6a0 .nil) k_Table_shape_7
def k_Table_shape_5 : Cs := .cons (.set 6 (.blt .tuple1 (.cons (.lc [5] (.nm 5) (.seq (.attr 0 (.v 0) "roots")) (.cst (.bl true)) (.ix (.v 4) (.v 5))) .nil))) k_Table_shape_6
def k_Table_shape_4a0 : Cs := .cons (.setIx (.v 4) (.v 5) (.meth 0 "tree" f_Table_tree (.v 0) (.cons (.v 5) (.cons (.v 4) .nil)))) .nil
def k_Table_shape_4 : Cs := .cons (.for_ (.nm 5) (.seq (.rev (.v 1))) k_Table_shape_4a0) k_Table_shape_5
def k_Table_shape_3 : Cs := .cons (.set 4 (.dct .nil .nil)) k_Table_shape_4
def k_Table_shape_2a1 : Cs := .cons (.aug 2 .Add (.cst (.int 1))) .nil
def k_Table_shape_2a0 : Cs := .cons (.aug 1 .Add (.lc [3] (.nm 3) (.seq (.ix (.attr 0 (.v 0) "kids") (.ix (.v 1) (.v 2)))) (.cmp .IsNot (.v 3) (.cst .non)) (.v 3))) k_Table_shape_2a1
def k_Table_shape_2 : Cs := .cons (.whl (.cmp .Lt (.v 2) (.blt .len (.cons (.v 1) .nil))) k_Table_shape_2a0) k_Table_shape_3
def k_Table_shape_1 : Cs := .cons (.set 2 (.cst (.int 0))) k_Table_shape_2
def k_Table_shape_0 : Cs := .cons (.set 1 (.blt .list1 (.cons (.attr 0 (.v 0) "roots") .nil))) k_Table_shape_1
def b_Table_shape : Fn := ⟨1, 7, k_Table_shape_0⟩
def k_table_of_2 : Cs := .cons (.ret (.v 2)) .nil
def k_table_of_1 : Cs := .cons (.setA 0 (.v 2) "roots" (.meth 0 "opened" f_Table_opened (.v 2) (.cons (.v 1) .nil))) k_table_of_2
def k_table_of_0 : Cs := .cons (.set 2 (.make 0 f_Table_init__ (.cons (.v 0) .nil))) k_table_of_1
def b_table_of : Fn := ⟨2, 3, k_table_of_0⟩
def k_least_1 : Cs := .cons (.ret (.blt .min1 (.cons (.lc [2] (.nm 2) (.seq (.call f_trees_of (.cons (.v 0) (.cons (.v 1) .nil)))) (.cst (.bl true)) (.ix (.v 2) (.cst (.int 0)))) .nil))) .nil
def k_least_0a0 : Cs := .cons (.raise 0) .nil
def k_least_0 : Cs := .cons (.cond (.cmp .Eq (.v 1) (.tup .nil)) k_least_0a0 .nil) k_least_1
def b_least : Fn := ⟨2, 3, k_least_0⟩
def k_meet_5 : Cs := .cons (.ret (.tup (.cons (.v 6) (.cons (.blt .len (.cons (.v 3) .nil)) .nil)))) .nil
def k_meet_4a0 : Cs := .cons (.setIx (.attr 0 (.v 0) "ups") (.v 6) (.cst .non)) .nil
def k_meet_4 : Cs := .cons (.cond (.cmp .IsNot (.v 6) (.cst .non)) k_meet_4a0 .nil) k_meet_5
def k_meet_3a2 : Cs := .cons (.set 6 (.v 4)) .nil
def k_meet_3a1a1 : Cs := .cons (.ex (.meth 0 "hang" f_Table_hang (.v 0) (.cons (.v 4) (.cons (.cst (.int 1)) (.cons (.v 7) .nil))))) .nil
def k_meet_3a1a0 : Cs := .cons (.ex (.meth 0 "hang" f_Table_hang (.v 0) (.cons (.v 4) (.cons (.cst (.int 0)) (.cons (.v 6) .nil))))) k_meet_3a1a1
def k_meet_3a1b1 : Cs := .cons (.ex (.call f_swap_sides (.cons (.v 0) (.cons (.v 4) .nil)))) .nil
def k_meet_3a1b0 : Cs := .cons (.ex (.meth 0 "hang" f_Table_hang (.v 0) (.cons (.v 4) (.cons (.cst (.int 1)) (.cons (.v 6) .nil))))) k_meet_3a1b1
def k_meet_3a1 : Cs := .cons (.cond (.cmp .Eq (.attr 0 (.v 0) "heap_kind") (.cst (.str "skew"))) k_meet_3a1a0 k_meet_3a1b0) k_meet_3a2
def k_meet_3a0 : Cs := .cons (.set 7 (.ix (.ix (.attr 0 (.v 0) "kids") (.v 4)) (.cst (.int 0)))) k_meet_3a1
def k_meet_3 : Cs := .cons (.for_ (.nm 4) (.seq (.rev (.v 3))) k_meet_3a0) k_meet_4
def k_meet_2 : Cs := .cons (.set 6 (.ite (.cmp .Is (.v 2) (.cst .non)) (.v 1) (.v 2))) k_meet_3
def k_meet_1a2 : Cs := .cons (.par 1 2 (.ix (.ix (.attr 0 (.v 0) "kids") (.v 4)) (.cst (.int 1))) (.v 5)) .nil
def k_meet_1a1 : Cs := .cons (.ex (.bm .append (.v 3) (.cons (.v 4) .nil))) k_meet_1a2
def k_meet_1a0 : Cs := .cons (.asg (.tp (.cons (.nm 4) (.cons (.nm 5) .nil))) (.meth 0 "sorted_two" f_Table_sorted_two (.v 0) (.cons (.v 1) (.cons (.v 2) .nil)))) k_meet_1a1
def k_meet_1 : Cs := .cons (.whl (.and (.cmp .IsNot (.v 1) (.cst .non)) (.cmp .IsNot (.v 2) (.cst .non))) k_meet_1a0) k_meet_2
def k_meet_0 : Cs := .cons (.set 3 (.lst .nil)) k_meet_1
def b_meet : Fn := ⟨3, 8, k_meet_0⟩
def k_swap_sides_0a2 : Cs := .cons (.ex (.meth 0 "set_rank" f_Table_set_rank (.v 0) (.cons (.v 1) .nil))) .nil
def k_swap_sides_0a1a0 : Cs := .cons (.setIx (.attr 0 (.v 0) "kids") (.v 1) (.lst (.cons (.v 3) (.cons (.v 2) .nil)))) .nil
def k_swap_sides_0a1 : Cs := .cons (.cond (.cmp .Lt (.meth 0 "rank" f_Table_rank (.v 0) (.cons (.v 2) .nil)) (.meth 0 "rank" f_Table_rank (.v 0) (.cons (.v 3) .nil))) k_swap_sides_0a1a0 .nil) k_swap_sides_0a2
def k_swap_sides_0a0 : Cs := .cons (.unp 2 3 (.ix (.attr 0 (.v 0) "kids") (.v 1))) k_swap_sides_0a1
def k_swap_sides_0 : Cs := .cons (.cond (.cmp .Eq (.attr 0 (.v 0) "heap_kind") (.cst (.str "left"))) k_swap_sides_0a0 .nil) .nil
def b_swap_sides : Fn := ⟨2, 4, k_swap_sides_0⟩
def k_set_root_0 : Cs := .cons (.setA 0 (.v 0) "roots" (.ite (.cmp .Is (.v 1) (.cst .non)) (.lst .nil) (.lst (.cons (.v 1) .nil)))) .nil
def b_set_root : Fn := ⟨2, 2, k_set_root_0⟩
def k_replace_3a1 : Cs := .cons (.set 3 (.ix (.attr 0 (.v 0) "ups") (.v 3))) .nil
def k_replace_3a0 : Cs := .cons (.ex (.call f_swap_sides (.cons (.v 0) (.cons (.v 3) .nil)))) k_replace_3a1
def k_replace_3 : Cs := .cons (.whl (.cmp .IsNot (.v 3) (.cst .non)) k_replace_3a0) .nil
def k_replace_2 : Cs := .cons (.ex (.meth 0 "hang" f_Table_hang (.v 0) (.cons (.v 3) (.cons (.bm .index (.ix (.attr 0 (.v 0) "kids") (.v 3)) (.cons (.v 1) .nil)) (.cons (.v 2) .nil))))) k_replace_3
def k_replace_1a1 : Cs := .cons (.ret .no) .nil
def k_replace_1a0 : Cs := .cons (.ex (.call f_set_root (.cons (.v 0) (.cons (.v 2) .nil)))) k_replace_1a1
def k_replace_1 : Cs := .cons (.cond (.cmp .Is (.v 3) (.cst .non)) k_replace_1a0 .nil) k_replace_2
def k_replace_0 : Cs := .cons (.set 3 (.ix (.attr 0 (.v 0) "ups") (.v 1))) k_replace_1
def b_replace : Fn := ⟨3, 4, k_replace_0⟩
def k_joined_sides_2 : Cs := .cons (.ret (.v 3)) .nil
def k_joined_sides_1 : Cs := .cons (.ex (.call f_set_root (.cons (.v 0) (.cons (.v 2) .nil)))) k_joined_sides_2
def k_joined_sides_0 : Cs := .cons (.asg (.tp (.cons (.nm 2) (.cons (.nm 3) .nil))) (.call f_meet (.cons (.v 0) (.cons (.ix (.bin .Add (.attr 0 (.v 0) "roots") (.lst (.cons (.cst .non) .nil))) (.cst (.int 0))) (.cons (.ix (.bin .Add (.v 1) (.lst (.cons (.cst .non) .nil))) (.cst (.int 0))) .nil))))) k_joined_sides_1
def b_joined_sides : Fn := ⟨2, 4, k_joined_sides_0⟩
def k_taken_out_2 : Cs := .cons (.ret (.v 3)) .nil
def k_taken_out_1 : Cs := .cons (.ex (.call f_replace (.cons (.v 0) (.cons (.v 1) (.cons (.v 2) .nil))))) k_taken_out_2
def k_taken_out_0 : Cs := .cons (.asg (.tp (.cons (.nm 2) (.cons (.nm 3) .nil))) (.call f_meet (.cons (.v 0) (.cons (.ix (.ix (.attr 0 (.v 0) "kids") (.v 1)) (.cst (.int 0))) (.cons (.ix (.ix (.attr 0 (.v 0) "kids") (.v 1)) (.cst (.int 1))) .nil))))) k_taken_out_1
def b_taken_out : Fn := ⟨2, 4, k_taken_out_0⟩
def k_lowered_sides_2 : Cs := .cons (.ret (.call f_joined_sides (.cons (.v 0) (.cons (.lst (.cons (.v 1) .nil)) .nil)))) .nil
def k_lowered_sides_1 : Cs := .cons (.setIx (.attr 0 (.v 0) "ups") (.v 1) (.cst .non)) k_lowered_sides_2
def k_lowered_sides_0 : Cs := .cons (.ex (.call f_replace (.cons (.v 0) (.cons (.v 1) (.cons (.cst .non) .nil))))) k_lowered_sides_1
def b_lowered_sides : Fn := ⟨2, 2, k_lowered_sides_0⟩
def k_tie_4 : Cs := .cons (.ret (.v 3)) .nil
def k_tie_3 : Cs := .cons (.setIx (.attr 0 (.v 0) "marks") (.v 4) (.cst (.bl false))) k_tie_4
def k_tie_2 : Cs := .cons (.setIx (.attr 0 (.v 0) "ups") (.v 4) (.v 3)) k_tie_3
def k_tie_1a0 : Cs := .cons (.ex (.bm .insert (.ix (.attr 0 (.v 0) "kids") (.v 3)) (.cons (.cst (.int 0)) (.cons (.v 4) .nil)))) .nil
def k_tie_1b0 : Cs := .cons (.ex (.bm .append (.ix (.attr 0 (.v 0) "kids") (.v 3)) (.cons (.v 4) .nil))) .nil
def k_tie_1 : Cs := .cons (.cond (.cmp .Eq (.attr 0 (.v 0) "heap_kind") (.cst (.str "pair"))) k_tie_1a0 k_tie_1b0) k_tie_2
def k_tie_0 : Cs := .cons (.asg (.tp (.cons (.nm 3) (.cons (.nm 4) .nil))) (.meth 0 "sorted_two" f_Table_sorted_two (.v 0) (.cons (.v 1) (.cons (.v 2) .nil)))) k_tie_1
def b_tie : Fn := ⟨3, 5, k_tie_0⟩
def k_freed_3 : Cs := .cons (.ret (.v 2)) .nil
def k_freed_2a1 : Cs := .cons (.setIx (.attr 0 (.v 0) "marks") (.v 3) (.cst (.bl false))) .nil
def k_freed_2a0 : Cs := .cons (.setIx (.attr 0 (.v 0) "ups") (.v 3) (.cst .non)) k_freed_2a1
def k_freed_2 : Cs := .cons (.for_ (.nm 3) (.seq (.v 2)) k_freed_2a0) k_freed_3
def k_freed_1 : Cs := .cons (.setIx (.attr 0 (.v 0) "kids") (.v 1) (.lst .nil)) k_freed_2
def k_freed_0 : Cs := .cons (.set 2 (.ix (.attr 0 (.v 0) "kids") (.v 1))) k_freed_1
def b_freed : Fn := ⟨2, 4, k_freed_0⟩
def k_loosen_3 : Cs := .cons (.ret (.v 2)) .nil
def k_loosen_2 : Cs := .cons (.setIx (.attr 0 (.v 0) "ups") (.v 1) (.cst .non)) k_loosen_3
def k_loosen_1 : Cs := .cons (.ex (.bm .remove (.ix (.attr 0 (.v 0) "kids") (.v 2)) (.cons (.v 1) .nil))) k_loosen_2
def k_loosen_0 : Cs := .cons (.set 2 (.ix (.attr 0 (.v 0) "ups") (.v 1))) k_loosen_1
def b_loosen : Fn := ⟨2, 3, k_loosen_0⟩
def k_tied_all_3 : Cs := .cons (.ret (.v 2)) .nil
def k_tied_all_2 : Cs := .cons (.setA 0 (.v 0) "roots" (.v 1)) k_tied_all_3
def k_tied_all_1a2 : Cs := .cons (.aug 2 .Add (.cst (.int 1))) .nil
def k_tied_all_1a1 : Cs := .cons (.setIx (.v 1) (.neg (.cst (.int 1))) (.call f_tie (.cons (.v 0) (.cons (.ix (.v 1) (.neg (.cst (.int 1)))) (.cons (.v 3) .nil))))) k_tied_all_1a2
def k_tied_all_1a0 : Cs := .cons (.set 3 (.bm .pop (.v 1) .nil)) k_tied_all_1a1
def k_tied_all_1 : Cs := .cons (.whl (.cmp .Gt (.blt .len (.cons (.v 1) .nil)) (.cst (.int 1))) k_tied_all_1a0) k_tied_all_2
def k_tied_all_0 : Cs := .cons (.set 2 (.cst (.int 0))) k_tied_all_1
def b_tied_all : Fn := ⟨2, 4, k_tied_all_0⟩
def k_gathered_4 : Cs := .cons (.ret (.tup (.cons (.v 3) (.cons (.v 2) .nil)))) .nil
def k_gathered_3a2 : Cs := .cons (.aug 2 .Add (.cst (.int 1))) .nil
def k_gathered_3a1 : Cs := .cons (.setIx (.v 3) (.neg (.cst (.int 1))) (.call f_tie (.cons (.v 0) (.cons (.ix (.v 3) (.neg (.cst (.int 1)))) (.cons (.v 5) .nil))))) k_gathered_3a2
def k_gathered_3a0 : Cs := .cons (.set 5 (.bm .pop (.v 3) .nil)) k_gathered_3a1
def k_gathered_3 : Cs := .cons (.whl (.cmp .Gt (.blt .len (.cons (.v 3) .nil)) (.cst (.int 1))) k_gathered_3a0) k_gathered_4
def k_gathered_2a1a1 : Cs := .cons (.aug 2 .Add (.cst (.int 1))) .nil
def k_gathered_2a1a0 : Cs := .cons (.setIx (.v 3) (.neg (.cst (.int 1))) (.call f_tie (.cons (.v 0) (.cons (.ix (.v 1) (.v 4)) (.cons (.ix (.v 1) (.bin .Add (.v 4) (.cst (.int 1)))) .nil))))) k_gathered_2a1a1
def k_gathered_2a1 : Cs := .cons (.cond (.cmp .Lt (.bin .Add (.v 4) (.cst (.int 1))) (.blt .len (.cons (.v 1) .nil))) k_gathered_2a1a0 .nil) .nil
def k_gathered_2a0 : Cs := .cons (.ex (.bm .append (.v 3) (.cons (.ix (.v 1) (.v 4)) .nil))) k_gathered_2a1
def k_gathered_2 : Cs := .cons (.for_ (.nm 4) (.rng2 (.cst (.int 0)) (.blt .len (.cons (.v 1) .nil))) k_gathered_2a0) k_gathered_3
def k_gathered_1 : Cs := .cons (.set 3 (.lst .nil)) k_gathered_2
def k_gathered_0 : Cs := .cons (.set 2 (.cst (.int 0))) k_gathered_1
def b_gathered : Fn := ⟨2, 6, k_gathered_0⟩
def k_pair_taken_out_3 : Cs := .cons (.ret (.bin .Add (.v 4) (.call f_tied_all (.cons (.v 0) (.cons (.bin .Add (.v 2) (.v 3)) .nil))))) .nil
def k_pair_taken_out_2 : Cs := .cons (.asg (.tp (.cons (.nm 3) (.cons (.nm 4) .nil))) (.call f_gathered (.cons (.v 0) (.cons (.call f_freed (.cons (.v 0) (.cons (.v 1) .nil))) .nil)))) k_pair_taken_out_3
def k_pair_taken_out_1a1 : Cs := .cons (.set 2 (.attr 0 (.v 0) "roots")) .nil
def k_pair_taken_out_1a0 : Cs := .cons (.ex (.call f_loosen (.cons (.v 0) (.cons (.v 1) .nil)))) k_pair_taken_out_1a1
def k_pair_taken_out_1 : Cs := .cons (.cond (.cmp .IsNot (.ix (.attr 0 (.v 0) "ups") (.v 1)) (.cst .non)) k_pair_taken_out_1a0 .nil) k_pair_taken_out_2
def k_pair_taken_out_0 : Cs := .cons (.set 2 (.lst .nil)) k_pair_taken_out_1
def b_pair_taken_out : Fn := ⟨2, 5, k_pair_taken_out_0⟩
def k_pair_lowered_1 : Cs := .cons (.ret (.call f_tied_all (.cons (.v 0) (.cons (.bin .Add (.attr 0 (.v 0) "roots") (.lst (.cons (.v 1) .nil))) .nil)))) .nil
def k_pair_lowered_0 : Cs := .cons (.ex (.call f_loosen (.cons (.v 0) (.cons (.v 1) .nil)))) k_pair_lowered_1
def b_pair_lowered : Fn := ⟨2, 2, k_pair_lowered_0⟩
def k_by_ranks_0 : Cs := .cons (.ret (.dc [2] (.nm 2) (.seq (.v 1)) (.blt .len (.cons (.ix (.attr 0 (.v 0) "kids") (.v 2)) .nil)) (.v 2))) .nil
def b_by_ranks : Fn := ⟨2, 3, k_by_ranks_0⟩
def k_count_joined_7 : Cs := .cons (.ret (.v 7)) .nil
def k_count_joined_6 : Cs := .cons (.setA 0 (.v 0) "roots" (.v 6)) k_count_joined_7
def k_count_joined_5a4 : Cs := .cons (.aug 8 .Add (.cst (.int 1))) .nil
def k_count_joined_5a3 : Cs := .cons (.aug 6 .Add (.v 9)) k_count_joined_5a4
def k_count_joined_5a2a2 : Cs := .cons (.set 9 (.sl (.v 9) (.cst (.int 2)) .no)) .nil
def k_count_joined_5a2a1 : Cs := .cons (.aug 7 .Add (.cst (.int 1))) k_count_joined_5a2a2
def k_count_joined_5a2a0 : Cs := .cons (.set 5 (.call f_tie (.cons (.v 0) (.cons (.ix (.v 9) (.cst (.int 0))) (.cons (.ix (.v 9) (.cst (.int 1))) .nil))))) k_count_joined_5a2a1
def k_count_joined_5a2 : Cs := .cons (.cond (.cmp .Gt (.blt .len (.cons (.v 9) .nil)) (.cst (.int 1))) k_count_joined_5a2a0 .nil) k_count_joined_5a3
def k_count_joined_5a1 : Cs := .cons (.set 5 (.cst .non)) k_count_joined_5a2
def k_count_joined_5a0 : Cs := .cons (.set 9 (.lc [10] (.nm 10) (.seq (.tup (.cons (.bm .get1 (.v 3) (.cons (.v 8) .nil)) (.cons (.bm .get1 (.v 4) (.cons (.v 8) .nil)) (.cons (.v 5) .nil))))) (.cmp .IsNot (.v 10) (.cst .non)) (.v 10))) k_count_joined_5a1
def k_count_joined_5 : Cs := .cons (.whl (.or (.cmp .LtE (.v 8) (.blt .maxd (.cons (.bin .Add (.blt .list1 (.cons (.v 3) .nil)) (.blt .list1 (.cons (.v 4) .nil))) (.cons (.neg (.cst (.int 1))) .nil)))) (.cmp .IsNot (.v 5) (.cst .non))) k_count_joined_5a0) k_count_joined_6
def k_count_joined_4 : Cs := .cons (.set 8 (.cst (.int 0))) k_count_joined_5
def k_count_joined_3 : Cs := .cons (.set 7 (.cst (.int 0))) k_count_joined_4
def k_count_joined_2 : Cs := .cons (.set 6 (.lst .nil)) k_count_joined_3
def k_count_joined_1 : Cs := .cons (.set 5 (.cst .non)) k_count_joined_2
def k_count_joined_0 : Cs := .cons (.par 3 4 (.call f_by_ranks (.cons (.v 0) (.cons (.v 1) .nil))) (.call f_by_ranks (.cons (.v 0) (.cons (.v 2) .nil)))) k_count_joined_1
def b_count_joined : Fn := ⟨3, 11, k_count_joined_0⟩
def k_count_up_2 : Cs := .cons (.ret (.v 3)) .nil
def k_count_up_1a1 : Cs := .cons (.aug 3 .Add (.cst (.int 1))) .nil
def k_count_up_1a0 : Cs := .cons (.ex (.call f_change (.cons (.v 0) (.cons (.v 1) (.cons (.ix (.attr 0 (.v 0) "ups") (.v 1)) .nil))))) k_count_up_1a1
def k_count_up_1 : Cs := .cons (.whl (.and (.cmp .IsNot (.ix (.attr 0 (.v 0) "ups") (.v 1)) (.cst .non)) (.or (.v 2) (.meth 0 "is_less" f_Table_is_less (.v 0) (.cons (.v 1) (.cons (.ix (.attr 0 (.v 0) "ups") (.v 1)) .nil))))) k_count_up_1a0) k_count_up_2
def k_count_up_0 : Cs := .cons (.set 3 (.cst (.int 0))) k_count_up_1
def b_count_up : Fn := ⟨3, 4, k_count_up_0⟩
def k_change_8a0 : Cs := .cons (.setIx (.attr 0 (.v 0) "roots") (.bm .index (.attr 0 (.v 0) "roots") (.cons (.v 2) .nil)) (.v 1)) .nil
def k_change_8b0 : Cs := .cons (.setIx (.ix (.attr 0 (.v 0) "kids") (.v 3)) (.bm .index (.ix (.attr 0 (.v 0) "kids") (.v 3)) (.cons (.v 2) .nil)) (.v 1)) .nil
def k_change_8 : Cs := .cons (.cond (.cmp .Is (.v 3) (.cst .non)) k_change_8a0 k_change_8b0) .nil
def k_change_7 : Cs := .cons (.setIx (.attr 0 (.v 0) "ups") (.v 1) (.v 3)) k_change_8
def k_change_6a0 : Cs := .cons (.setIx (.attr 0 (.v 0) "ups") (.v 7) (.v 1)) .nil
def k_change_6 : Cs := .cons (.for_ (.nm 7) (.seq (.ix (.attr 0 (.v 0) "kids") (.v 1))) k_change_6a0) k_change_7
def k_change_5a0 : Cs := .cons (.setIx (.attr 0 (.v 0) "ups") (.v 7) (.v 2)) .nil
def k_change_5 : Cs := .cons (.for_ (.nm 7) (.seq (.v 4)) k_change_5a0) k_change_6
def k_change_4 : Cs := .cons (.setIx (.attr 0 (.v 0) "kids") (.v 2) (.v 4)) k_change_5
def k_change_3 : Cs := .cons (.setIx (.attr 0 (.v 0) "kids") (.v 1) (.bin .Add (.bin .Add (.sl (.v 5) .no (.v 6)) (.lst (.cons (.v 2) .nil))) (.sl (.v 5) (.bin .Add (.v 6) (.cst (.int 1))) .no))) k_change_4
def k_change_2 : Cs := .cons (.set 6 (.bm .index (.v 5) (.cons (.v 1) .nil))) k_change_3
def k_change_1 : Cs := .cons (.par 4 5 (.ix (.attr 0 (.v 0) "kids") (.v 1)) (.ix (.attr 0 (.v 0) "kids") (.v 2))) k_change_2
def k_change_0 : Cs := .cons (.set 3 (.ix (.attr 0 (.v 0) "ups") (.v 2))) k_change_1
def b_change : Fn := ⟨3, 8, k_change_0⟩
def k_count_taken_out_2 : Cs := .cons (.ret (.bin .Add (.v 2) (.call f_count_joined (.cons (.v 0) (.cons (.v 3) (.cons (.call f_freed (.cons (.v 0) (.cons (.v 1) .nil))) .nil)))))) .nil
def k_count_taken_out_1 : Cs := .cons (.set 3 (.lc [4] (.nm 4) (.seq (.attr 0 (.v 0) "roots")) (.cmp .NotEq (.v 4) (.v 1)) (.v 4))) k_count_taken_out_2
def k_count_taken_out_0 : Cs := .cons (.set 2 (.call f_count_up (.cons (.v 0) (.cons (.v 1) (.cons (.cst (.bl true)) .nil))))) k_count_taken_out_1
def b_count_taken_out : Fn := ⟨2, 5, k_count_taken_out_0⟩
def k_cut_off_1a6 : Cs := .cons (.set 1 (.v 3)) .nil
def k_cut_off_1a5a1 : Cs := .cons (.ret (.v 2)) .nil
def k_cut_off_1a5a0 : Cs := .cons (.setIx (.attr 0 (.v 0) "marks") (.v 3) (.cst (.bl true))) k_cut_off_1a5a1
def k_cut_off_1a5 : Cs := .cons (.cond (.not (.ix (.attr 0 (.v 0) "marks") (.v 3))) k_cut_off_1a5a0 .nil) k_cut_off_1a6
def k_cut_off_1a4a0 : Cs := .cons (.ret (.v 2)) .nil
def k_cut_off_1a4 : Cs := .cons (.cond (.cmp .Is (.ix (.attr 0 (.v 0) "ups") (.v 3)) (.cst .non)) k_cut_off_1a4a0 .nil) k_cut_off_1a5
def k_cut_off_1a3 : Cs := .cons (.aug 2 .Add (.cst (.int 1))) k_cut_off_1a4
def k_cut_off_1a2 : Cs := .cons (.ex (.bm .append (.attr 0 (.v 0) "roots") (.cons (.v 1) .nil))) k_cut_off_1a3
def k_cut_off_1a1 : Cs := .cons (.setIx (.attr 0 (.v 0) "marks") (.v 1) (.cst (.bl false))) k_cut_off_1a2
def k_cut_off_1a0 : Cs := .cons (.set 3 (.call f_loosen (.cons (.v 0) (.cons (.v 1) .nil)))) k_cut_off_1a1
def k_cut_off_1 : Cs := .cons (.whl (.cst (.bl true)) k_cut_off_1a0) .nil
def k_cut_off_0 : Cs := .cons (.set 2 (.cst (.int 0))) k_cut_off_1
def b_cut_off : Fn := ⟨2, 4, k_cut_off_0⟩
def k_cleared_4 : Cs := .cons (.ret (.v 2)) .nil
def k_cleared_3 : Cs := .cons (.setA 0 (.v 0) "roots" (.lc [4] (.nm 4) (.seq (.blt .sorted1 (.cons (.v 1) .nil))) (.cst (.bl true)) (.ix (.v 1) (.v 4)))) k_cleared_4
def k_cleared_2a1 : Cs := .cons (.setIx (.v 1) (.blt .len (.cons (.ix (.attr 0 (.v 0) "kids") (.v 3)) .nil)) (.v 3)) .nil
def k_cleared_2a0a1 : Cs := .cons (.aug 2 .Add (.cst (.int 1))) .nil
def k_cleared_2a0a0 : Cs := .cons (.set 3 (.call f_tie (.cons (.v 0) (.cons (.bm .dpop (.v 1) (.cons (.blt .len (.cons (.ix (.attr 0 (.v 0) "kids") (.v 3)) .nil)) .nil)) (.cons (.v 3) .nil))))) k_cleared_2a0a1
def k_cleared_2a0 : Cs := .cons (.whl (.cmp .In (.blt .len (.cons (.ix (.attr 0 (.v 0) "kids") (.v 3)) .nil)) (.v 1)) k_cleared_2a0a0) k_cleared_2a1
def k_cleared_2 : Cs := .cons (.for_ (.nm 3) (.seq (.attr 0 (.v 0) "roots")) k_cleared_2a0) k_cleared_3
def k_cleared_1 : Cs := .cons (.set 2 (.cst (.int 0))) k_cleared_2
def k_cleared_0 : Cs := .cons (.set 1 (.dct .nil .nil)) k_cleared_1
def b_cleared : Fn := ⟨1, 5, k_cleared_0⟩
def k_cut_taken_out_3 : Cs := .cons (.ret (.bin .Add (.v 2) (.call f_cleared (.cons (.v 0) .nil)))) .nil
def k_cut_taken_out_2 : Cs := .cons (.augA 0 (.v 0) "roots" .Add (.call f_freed (.cons (.v 0) (.cons (.v 1) .nil)))) k_cut_taken_out_3
def k_cut_taken_out_1 : Cs := .cons (.ex (.bm .remove (.attr 0 (.v 0) "roots") (.cons (.v 1) .nil))) k_cut_taken_out_2
def k_cut_taken_out_0 : Cs := .cons (.set 2 (.ite (.cmp .IsNot (.ix (.attr 0 (.v 0) "ups") (.v 1)) (.cst .non)) (.call f_cut_off (.cons (.v 0) (.cons (.v 1) .nil))) (.cst (.int 0)))) k_cut_taken_out_1
def b_cut_taken_out : Fn := ⟨2, 3, k_cut_taken_out_0⟩
def k_all_joined_4 : Cs := .cons (.ret (.cst (.int 0))) .nil
def k_all_joined_3 : Cs := .cons (.setA 0 (.v 0) "roots" (.bin .Add (.attr 0 (.v 0) "roots") (.v 1))) k_all_joined_4
def k_all_joined_2a0 : Cs := .cons (.ret (.call f_count_joined (.cons (.v 0) (.cons (.attr 0 (.v 0) "roots") (.cons (.v 1) .nil))))) .nil
def k_all_joined_2 : Cs := .cons (.cond (.cmp .Eq (.attr 0 (.v 0) "heap_kind") (.cst (.str "count"))) k_all_joined_2a0 .nil) k_all_joined_3
def k_all_joined_1a0 : Cs := .cons (.ret (.call f_tied_all (.cons (.v 0) (.cons (.bin .Add (.attr 0 (.v 0) "roots") (.v 1)) .nil)))) .nil
def k_all_joined_1 : Cs := .cons (.cond (.cmp .Eq (.attr 0 (.v 0) "heap_kind") (.cst (.str "pair"))) k_all_joined_1a0 .nil) k_all_joined_2
def k_all_joined_0a0 : Cs := .cons (.ret (.call f_joined_sides (.cons (.v 0) (.cons (.v 1) .nil)))) .nil
def k_all_joined_0 : Cs := .cons (.cond (.cmp .In (.attr 0 (.v 0) "heap_kind") (.tup (.cons (.cst (.str "left")) (.cons (.cst (.str "skew")) .nil)))) k_all_joined_0a0 .nil) k_all_joined_1
def b_all_joined : Fn := ⟨2, 2, k_all_joined_0⟩
def k_gone_1 : Cs := .cons (.ret (.v 2)) .nil
def k_gone_0a0 : Cs := .cons (.set 2 (.call f_taken_out (.cons (.v 0) (.cons (.v 1) .nil)))) .nil
def k_gone_0b0a0 : Cs := .cons (.set 2 (.call f_pair_taken_out (.cons (.v 0) (.cons (.v 1) .nil)))) .nil
def k_gone_0b0b0a0 : Cs := .cons (.set 2 (.call f_count_taken_out (.cons (.v 0) (.cons (.v 1) .nil)))) .nil
def k_gone_0b0b0b0 : Cs := .cons (.set 2 (.call f_cut_taken_out (.cons (.v 0) (.cons (.v 1) .nil)))) .nil
def k_gone_0b0b0 : Cs := .cons (.cond (.cmp .Eq (.attr 0 (.v 0) "heap_kind") (.cst (.str "count"))) k_gone_0b0b0a0 k_gone_0b0b0b0) .nil
def k_gone_0b0 : Cs := .cons (.cond (.cmp .Eq (.attr 0 (.v 0) "heap_kind") (.cst (.str "pair"))) k_gone_0b0a0 k_gone_0b0b0) .nil
def k_gone_0 : Cs := .cons (.cond (.cmp .In (.attr 0 (.v 0) "heap_kind") (.tup (.cons (.cst (.str "left")) (.cons (.cst (.str "skew")) .nil)))) k_gone_0a0 k_gone_0b0) k_gone_1
def b_gone : Fn := ⟨2, 3, k_gone_0⟩
def k_moved_4 : Cs := .cons (.ret (.ite (.cmp .Eq (.attr 0 (.v 0) "heap_kind") (.cst (.str "count"))) (.call f_count_up (.cons (.v 0) (.cons (.v 1) (.cons (.cst (.bl false)) .nil)))) (.call f_cut_off (.cons (.v 0) (.cons (.v 1) .nil))))) .nil
def k_moved_3a0 : Cs := .cons (.ret (.call f_pair_lowered (.cons (.v 0) (.cons (.v 1) .nil)))) .nil
def k_moved_3 : Cs := .cons (.cond (.cmp .Eq (.attr 0 (.v 0) "heap_kind") (.cst (.str "pair"))) k_moved_3a0 .nil) k_moved_4
def k_moved_2a0 : Cs := .cons (.ret (.call f_lowered_sides (.cons (.v 0) (.cons (.v 1) .nil)))) .nil
def k_moved_2 : Cs := .cons (.cond (.cmp .In (.attr 0 (.v 0) "heap_kind") (.tup (.cons (.cst (.str "left")) (.cons (.cst (.str "skew")) .nil)))) k_moved_2a0 .nil) k_moved_3
def k_moved_1a0 : Cs := .cons (.ret (.cst (.int 0))) .nil
def k_moved_1 : Cs := .cons (.cond (.or (.cmp .Is (.v 2) (.cst .non)) (.not (.meth 0 "is_less" f_Table_is_less (.v 0) (.cons (.v 1) (.cons (.v 2) .nil))))) k_moved_1a0 .nil) k_moved_2
def k_moved_0 : Cs := .cons (.set 2 (.ix (.attr 0 (.v 0) "ups") (.v 1))) k_moved_1
def b_moved : Fn := ⟨2, 3, k_moved_0⟩
def k_joined_deeds_5 : Cs := .cons (.ret (.tup (.cons (.meth 0 "shape" f_Table_shape (.v 3) .nil) (.cons (.v 7) .nil)))) .nil
def k_joined_deeds_4 : Cs := .cons (.set 7 (.call f_all_joined (.cons (.v 3) (.cons (.meth 0 "opened" f_Table_opened (.v 3) (.cons (.v 2) .nil)) .nil)))) k_joined_deeds_5
def k_joined_deeds_3a0 : Cs := .cons (.raise 0) .nil
def k_joined_deeds_3 : Cs := .cons (.cond (.blt .any1 (.cons (.lc [6] (.nm 6) (.keys (.attr 0 (.v 5) "key_at")) (.cst (.bl true)) (.cmp .In (.v 6) (.v 4))) .nil)) k_joined_deeds_3a0 .nil) k_joined_deeds_4
def k_joined_deeds_2 : Cs := .cons (.set 5 (.call f_table_of (.cons (.v 0) (.cons (.v 2) .nil)))) k_joined_deeds_3
def k_joined_deeds_1 : Cs := .cons (.set 4 (.blt .dict1 (.cons (.attr 0 (.v 3) "key_at") .nil))) k_joined_deeds_2
def k_joined_deeds_0 : Cs := .cons (.set 3 (.call f_table_of (.cons (.v 0) (.cons (.v 1) .nil)))) k_joined_deeds_1
def b_joined_deeds : Fn := ⟨3, 8, k_joined_deeds_0⟩
def k_put_5 : Cs := .cons (.ret (.tup (.cons (.meth 0 "shape" f_Table_shape (.v 3) .nil) (.cons (.v 4) .nil)))) .nil
def k_put_4 : Cs := .cons (.set 4 (.call f_all_joined (.cons (.v 3) (.cons (.lst (.cons (.ix (.v 2) (.cst (.int 1))) .nil)) .nil)))) k_put_5
def k_put_3 : Cs := .cons (.setIx (.attr 0 (.v 3) "marks") (.ix (.v 2) (.cst (.int 1))) (.cst (.bl false))) k_put_4
def k_put_2 : Cs := .cons (.ex (.meth 0 "add" f_Table_add (.v 3) (.cons (.v 2) .nil))) k_put_3
def k_put_1a0 : Cs := .cons (.raise 0) .nil
def k_put_1 : Cs := .cons (.cond (.cmp .In (.ix (.v 2) (.cst (.int 1))) (.attr 0 (.v 3) "key_at")) k_put_1a0 .nil) k_put_2
def k_put_0 : Cs := .cons (.set 3 (.call f_table_of (.cons (.v 0) (.cons (.v 1) .nil)))) k_put_1
def b_put : Fn := ⟨3, 5, k_put_0⟩
def k_taken_4 : Cs := .cons (.ret (.tup (.cons (.v 3) (.cons (.meth 0 "shape" f_Table_shape (.v 2) .nil) (.cons (.v 4) .nil))))) .nil
def k_taken_3 : Cs := .cons (.set 4 (.call f_gone (.cons (.v 2) (.cons (.ix (.v 3) (.cst (.int 1))) .nil)))) k_taken_4
def k_taken_2 : Cs := .cons (.set 3 (.call f_least (.cons (.v 0) (.cons (.v 1) .nil)))) k_taken_3
def k_taken_1 : Cs := .cons (.set 2 (.call f_table_of (.cons (.v 0) (.cons (.v 1) .nil)))) k_taken_2
def k_taken_0a0 : Cs := .cons (.raise 0) .nil
def k_taken_0 : Cs := .cons (.cond (.cmp .Eq (.v 1) (.tup .nil)) k_taken_0a0 .nil) k_taken_1
def b_taken : Fn := ⟨2, 5, k_taken_0⟩
def k_check_ticket_0a0 : Cs := .cons (.raise 0) .nil
def k_check_ticket_0 : Cs := .cons (.cond (.or (.not (.call f_is_whole (.cons (.v 1) (.cons (.cst (.int 0)) (.cons (.cst (.int 1000000)) .nil))))) (.cmp .NotIn (.v 1) (.attr 0 (.v 0) "key_at"))) k_check_ticket_0a0 .nil) .nil
def b_check_ticket : Fn := ⟨2, 2, k_check_ticket_0⟩
def k_lowered_deeds_5 : Cs := .cons (.ret (.tup (.cons (.meth 0 "shape" f_Table_shape (.v 4) .nil) (.cons (.v 5) .nil)))) .nil
def k_lowered_deeds_4 : Cs := .cons (.set 5 (.call f_moved (.cons (.v 4) (.cons (.v 2) .nil)))) k_lowered_deeds_5
def k_lowered_deeds_3 : Cs := .cons (.setIx (.attr 0 (.v 4) "key_at") (.v 2) (.v 3)) k_lowered_deeds_4
def k_lowered_deeds_2a0 : Cs := .cons (.raise 0) .nil
def k_lowered_deeds_2 : Cs := .cons (.cond (.cmp .Gt (.v 3) (.ix (.attr 0 (.v 4) "key_at") (.v 2))) k_lowered_deeds_2a0 .nil) k_lowered_deeds_3
def k_lowered_deeds_1 : Cs := .cons (.ex (.call f_check_ticket (.cons (.v 4) (.cons (.v 2) .nil)))) k_lowered_deeds_2
def k_lowered_deeds_0 : Cs := .cons (.set 4 (.call f_table_of (.cons (.v 0) (.cons (.v 1) .nil)))) k_lowered_deeds_1
def b_lowered_deeds : Fn := ⟨4, 6, k_lowered_deeds_0⟩
def k_dropped_3 : Cs := .cons (.ret (.tup (.cons (.meth 0 "shape" f_Table_shape (.v 3) .nil) (.cons (.v 4) .nil)))) .nil
def k_dropped_2 : Cs := .cons (.set 4 (.call f_gone (.cons (.v 3) (.cons (.v 2) .nil)))) k_dropped_3
def k_dropped_1 : Cs := .cons (.ex (.call f_check_ticket (.cons (.v 3) (.cons (.v 2) .nil)))) k_dropped_2
def k_dropped_0 : Cs := .cons (.set 3 (.call f_table_of (.cons (.v 0) (.cons (.v 1) .nil)))) k_dropped_1
def b_dropped : Fn := ⟨3, 5, k_dropped_0⟩
def k_law_stir_2 : Cs := .cons (.ret (.bin .FloorDiv (.bin .Mod (.bin .Pow (.bin .Add (.bin .Pow (.v 2) (.cst (.int 5))) (.bin .Mult (.cst (.int 48271)) (.v 1))) (.cst (.int 3))) (.cst (.int 162259276829213363391578010288127))) (.cst (.int 7)))) .nil
def k_law_stir_1 : Cs := .cons (.set 2 (.bin .Mod (.v 2) (.cst (.int 170141183460469231731687303715884105727)))) k_law_stir_2
def k_law_stir_0 : Cs := .cons (.set 2 (.bin .Mult (.bin .Add (.bin .Add (.bin .Mod (.v 0) (.bin .Pow (.cst (.int 10)) (.cst (.int 60)))) (.bin .Mult (.cst (.int 7919)) (.v 1))) (.cst (.int 1))) (.cst (.int 27182818284590452353602874713527)))) k_law_stir_1
def b_law_stir : Fn := ⟨2, 3, k_law_stir_0⟩
def k_law_source_0 : Cs := .cons (.ret (.lst (.cons (.v 0) (.cons (.v 0) (.cons (.cst (.int 0)) (.cons (.cst (.int 0)) .nil)))))) .nil
def b_law_source : Fn := ⟨1, 1, k_law_source_0⟩
def k_law_take_2 : Cs := .cons (.ret (.bin .Mod (.call f_law_stir (.cons (.ix (.v 0) (.cst (.int 0))) (.cons (.ix (.v 0) (.cst (.int 2))) .nil))) (.v 1))) .nil
def k_law_take_1a2 : Cs := .cons (.ret (.v 2)) .nil
def k_law_take_1a1 : Cs := .cons (.setIx (.v 0) (.cst (.int 1)) (.bin .FloorDiv (.ix (.v 0) (.cst (.int 1))) (.v 1))) k_law_take_1a2
def k_law_take_1a0 : Cs := .cons (.set 2 (.bin .Mod (.ix (.v 0) (.cst (.int 1))) (.v 1))) k_law_take_1a1
def k_law_take_1 : Cs := .cons (.cond (.and (.cmp .GtE (.ix (.v 0) (.cst (.int 0))) (.bin .Pow (.cst (.int 10)) (.cst (.int 18)))) (.cmp .Gt (.ix (.v 0) (.cst (.int 1))) (.cst (.int 0)))) k_law_take_1a0 .nil) k_law_take_2
def k_law_take_0 : Cs := .cons (.setIx (.v 0) (.cst (.int 2)) (.bin .Add (.ix (.v 0) (.cst (.int 2))) (.cst (.int 1)))) k_law_take_1
def b_law_take : Fn := ⟨2, 3, k_law_take_0⟩
def k_law_one_of_0 : Cs := .cons (.ret (.ix (.v 1) (.call f_law_take (.cons (.v 0) (.cons (.blt .len (.cons (.v 1) .nil)) .nil))))) .nil
def b_law_one_of : Fn := ⟨2, 2, k_law_one_of_0⟩
def k_law_sort_3 : Cs := .cons (.ret (.ite (.blt (.isi .list) (.cons (.v 0) .nil)) (.cst (.str "list")) (.cst (.str "other")))) .nil
def k_law_sort_2a0 : Cs := .cons (.ret (.cst (.str "tuple"))) .nil
def k_law_sort_2 : Cs := .cons (.cond (.blt (.isi .tuple) (.cons (.v 0) .nil)) k_law_sort_2a0 .nil) k_law_sort_3
def k_law_sort_1a0 : Cs := .cons (.ret (.cst (.str "number"))) .nil
def k_law_sort_1 : Cs := .cons (.cond (.blt (.isi .int) (.cons (.v 0) .nil)) k_law_sort_1a0 .nil) k_law_sort_2
def k_law_sort_0a0 : Cs := .cons (.ret (.cst (.str "truth"))) .nil
def k_law_sort_0 : Cs := .cons (.cond (.blt (.isi .bool) (.cons (.v 0) .nil)) k_law_sort_0a0 .nil) k_law_sort_1
def b_law_sort : Fn := ⟨1, 1, k_law_sort_0⟩
def k_law_same_3 : Cs := .cons (.ret (.cmp .Eq (.lc [2, 3] (.tp (.cons (.nm 2) (.cons (.nm 3) .nil))) (.enum (.v 0)) (.not (.call f_law_same (.cons (.v 3) (.cons (.ix (.v 1) (.v 2)) .nil)))) (.v 2)) (.lst .nil))) .nil
def k_law_same_2a0 : Cs := .cons (.ret (.cst (.bl false))) .nil
def k_law_same_2 : Cs := .cons (.cond (.cmp .NotEq (.blt .len (.cons (.v 0) .nil)) (.blt .len (.cons (.v 1) .nil))) k_law_same_2a0 .nil) k_law_same_3
def k_law_same_1a0 : Cs := .cons (.ret (.cmp .Eq (.v 0) (.v 1))) .nil
def k_law_same_1 : Cs := .cons (.cond (.not (.blt (.isi .tl) (.cons (.v 0) .nil))) k_law_same_1a0 .nil) k_law_same_2
def k_law_same_0a0 : Cs := .cons (.ret (.cst (.bl false))) .nil
def k_law_same_0 : Cs := .cons (.cond (.cmp .NotEq (.call f_law_sort (.cons (.v 0) .nil)) (.call f_law_sort (.cons (.v 1) .nil))) k_law_same_0a0 .nil) k_law_same_1
def b_law_same : Fn := ⟨2, 4, k_law_same_0⟩
def k_law_key_3 : Cs := .cons (.ret (.call f_law_one_of (.cons (.v 0) (.cons (.lst (.cons (.bin .Pow (.cst (.int 10)) (.cst (.int 12))) (.cons (.neg (.bin .Pow (.cst (.int 10)) (.cst (.int 12)))) (.cons (.bin .Sub (.bin .Pow (.cst (.int 10)) (.cst (.int 12))) (.cst (.int 1))) (.cons (.cst (.int 0)) (.cons (.neg (.cst (.int 1))) (.cons (.bin .Mult (.cst (.int 7)) (.bin .Pow (.cst (.int 10)) (.cst (.int 11)))) .nil))))))) .nil)))) .nil
def k_law_key_2a0 : Cs := .cons (.ret (.bin .Sub (.call f_law_take (.cons (.v 0) (.cons (.cst (.int 2000)) .nil))) (.cst (.int 1000)))) .nil
def k_law_key_2 : Cs := .cons (.cond (.cmp .Eq (.v 1) (.cst (.int 2))) k_law_key_2a0 .nil) k_law_key_3
def k_law_key_1a0 : Cs := .cons (.ret (.call f_law_take (.cons (.v 0) (.cons (.cst (.int 12)) .nil)))) .nil
def k_law_key_1 : Cs := .cons (.cond (.cmp .Lt (.v 1) (.cst (.int 2))) k_law_key_1a0 .nil) k_law_key_2
def k_law_key_0 : Cs := .cons (.set 1 (.call f_law_take (.cons (.v 0) (.cons (.cst (.int 4)) .nil)))) k_law_key_1
def b_law_key : Fn := ⟨1, 2, k_law_key_0⟩
def k_law_tie_3 : Cs := .cons (.ret (.tup (.cons (.ix (.v 1) (.cst (.int 0))) (.cons (.bin .Add (.ix (.v 1) (.cst (.int 1))) (.tup (.cons (.v 2) .nil))) .nil)))) .nil
def k_law_tie_2a0 : Cs := .cons (.ret (.tup (.cons (.ix (.v 1) (.cst (.int 0))) (.cons (.ix (.v 1) (.cst (.int 1))) (.cons (.bin .Add (.ix (.v 1) (.cst (.int 2))) (.tup (.cons (.tup (.cons (.ix (.v 2) (.cst (.int 0))) (.cons (.cst (.bl false)) (.cons (.ix (.v 2) (.cst (.int 2))) .nil)))) .nil))) .nil))))) .nil
def k_law_tie_2 : Cs := .cons (.cond (.cmp .Eq (.v 0) (.cst (.str "cut"))) k_law_tie_2a0 .nil) k_law_tie_3
def k_law_tie_1a0 : Cs := .cons (.ret (.tup (.cons (.ix (.v 1) (.cst (.int 0))) (.cons (.bin .Add (.tup (.cons (.v 2) .nil)) (.ix (.v 1) (.cst (.int 1)))) .nil)))) .nil
def k_law_tie_1 : Cs := .cons (.cond (.cmp .Eq (.v 0) (.cst (.str "pair"))) k_law_tie_1a0 .nil) k_law_tie_2
def k_law_tie_0a0 : Cs := .cons (.par 1 2 (.v 2) (.v 1)) .nil
def k_law_tie_0 : Cs := .cons (.cond (.cmp .Lt (.ix (.v 2) (.cst (.int 0))) (.ix (.v 1) (.cst (.int 0)))) k_law_tie_0a0 .nil) k_law_tie_1
def b_law_tie : Fn := ⟨3, 3, k_law_tie_0⟩
def k_law_trees_1 : Cs := .cons (.ret (.ite (.cmp .Eq (.v 1) (.tup .nil)) (.lst .nil) (.lst (.cons (.v 1) .nil)))) .nil
def k_law_trees_0a0 : Cs := .cons (.ret (.blt .list1 (.cons (.v 1) .nil))) .nil
def k_law_trees_0 : Cs := .cons (.cond (.cmp .In (.v 0) (.tup (.cons (.cst (.str "count")) (.cons (.cst (.str "cut")) .nil)))) k_law_trees_0a0 .nil) k_law_trees_1
def b_law_trees : Fn := ⟨2, 2, k_law_trees_0⟩
def k_law_kids_1 : Cs := .cons (.ret (.blt .list1 (.cons (.ix (.v 1) (.neg (.cst (.int 1)))) .nil))) .nil
def k_law_kids_0a0 : Cs := .cons (.ret (.lc [2] (.nm 2) (.seq (.sl (.v 1) (.cst (.int 1)) .no)) (.cmp .NotEq (.v 2) (.tup .nil)) (.v 2))) .nil
def k_law_kids_0 : Cs := .cons (.cond (.cmp .In (.v 0) (.tup (.cons (.cst (.str "left")) (.cons (.cst (.str "skew")) .nil)))) k_law_kids_0a0 .nil) k_law_kids_1
def b_law_kids : Fn := ⟨2, 3, k_law_kids_0⟩
def k_law_items_3 : Cs := .cons (.ret (.blt .sorted1 (.cons (.v 2) .nil))) .nil
def k_law_items_2a2 : Cs := .cons (.set 3 (.bin .Add (.v 3) (.call f_law_kids (.cons (.v 0) (.cons (.v 4) .nil))))) .nil
def k_law_items_2a1 : Cs := .cons (.ex (.bm .append (.v 2) (.cons (.ix (.v 4) (.cst (.int 0))) .nil))) k_law_items_2a2
def k_law_items_2a0 : Cs := .cons (.set 4 (.bm .pop (.v 3) .nil)) k_law_items_2a1
def k_law_items_2 : Cs := .cons (.whl (.cmp .NotEq (.v 3) (.lst .nil)) k_law_items_2a0) k_law_items_3
def k_law_items_1 : Cs := .cons (.set 3 (.call f_law_trees (.cons (.v 0) (.cons (.v 1) .nil)))) k_law_items_2
def k_law_items_0 : Cs := .cons (.set 2 (.lst .nil)) k_law_items_1
def b_law_items : Fn := ⟨2, 5, k_law_items_0⟩
def k_law_deed_6 : Cs := .cons (.ret (.tup (.cons (.cst (.str "lower")) (.cons (.v 4) (.cons (.blt .max2 (.cons (.neg (.bin .Pow (.cst (.int 10)) (.cst (.int 12)))) (.cons (.blt .min2 (.cons (.v 5) (.cons (.ix (.v 4) (.cst (.int 0))) .nil))) .nil))) .nil))))) .nil
def k_law_deed_5 : Cs := .cons (.set 5 (.call f_law_one_of (.cons (.v 0) (.cons (.lst (.cons (.ix (.v 4) (.cst (.int 0))) (.cons (.bin .Sub (.ix (.v 4) (.cst (.int 0))) (.cst (.int 1))) (.cons (.bin .Sub (.ix (.ix (.v 1) (.cst (.int 0))) (.cst (.int 0))) (.cst (.int 1))) (.cons (.ix (.ix (.v 1) (.cst (.int 0))) (.cst (.int 0))) (.cons (.call f_law_key (.cons (.v 0) .nil)) .nil)))))) .nil)))) k_law_deed_6
def k_law_deed_4a0 : Cs := .cons (.ret (.tup (.cons (.cst (.str "drop")) (.cons (.v 4) .nil)))) .nil
def k_law_deed_4 : Cs := .cons (.cond (.cmp .Eq (.v 3) (.cst (.int 6))) k_law_deed_4a0 .nil) k_law_deed_5
def k_law_deed_3a0 : Cs := .cons (.ret (.tup (.cons (.cst (.str "take")) .nil))) .nil
def k_law_deed_3 : Cs := .cons (.cond (.cmp .Eq (.v 3) (.cst (.int 5))) k_law_deed_3a0 .nil) k_law_deed_4
def k_law_deed_2 : Cs := .cons (.set 4 (.call f_law_one_of (.cons (.v 0) (.cons (.v 1) .nil)))) k_law_deed_3
def k_law_deed_1a0 : Cs := .cons (.ret (.tup (.cons (.cst (.str "put")) (.cons (.tup (.cons (.call f_law_key (.cons (.v 0) .nil)) (.cons (.v 2) .nil))) .nil)))) .nil
def k_law_deed_1 : Cs := .cons (.cond (.or (.cmp .Eq (.v 1) (.lst .nil)) (.cmp .Lt (.v 3) (.cst (.int 5)))) k_law_deed_1a0 .nil) k_law_deed_2
def k_law_deed_0 : Cs := .cons (.set 3 (.call f_law_take (.cons (.v 0) (.cons (.cst (.int 10)) .nil)))) k_law_deed_1
def b_law_deed : Fn := ⟨3, 6, k_law_deed_0⟩
def k_law_pair_join_1 : Cs := .cons (.ret (.tup (.cons (.call f_law_tie (.cons (.cst (.str "pair")) (.cons (.v 1) (.cons (.v 2) .nil)))) (.cons (.cst (.int 1)) .nil)))) .nil
def k_law_pair_join_0a0 : Cs := .cons (.ret (.tup (.cons (.ite (.cmp .Eq (.v 2) (.tup .nil)) (.v 1) (.v 2)) (.cons (.cst (.int 0)) .nil)))) .nil
def k_law_pair_join_0 : Cs := .cons (.cond (.or (.cmp .Eq (.v 1) (.tup .nil)) (.cmp .Eq (.v 2) (.tup .nil))) k_law_pair_join_0a0 .nil) k_law_pair_join_1
def b_law_pair_join : Fn := ⟨3, 3, k_law_pair_join_0⟩
def k_law_by_program_3 : Cs := .cons (.ret (.call f_lowered_deeds (.cons (.v 0) (.cons (.v 1) (.cons (.ix (.ix (.v 2) (.cst (.int 1))) (.cst (.int 1))) (.cons (.ix (.v 2) (.cst (.int 2))) .nil)))))) .nil
def k_law_by_program_2a0 : Cs := .cons (.ret (.call f_dropped (.cons (.v 0) (.cons (.v 1) (.cons (.ix (.ix (.v 2) (.cst (.int 1))) (.cst (.int 1))) .nil))))) .nil
def k_law_by_program_2 : Cs := .cons (.cond (.cmp .Eq (.ix (.v 2) (.cst (.int 0))) (.cst (.str "drop"))) k_law_by_program_2a0 .nil) k_law_by_program_3
def k_law_by_program_1a0 : Cs := .cons (.ret (.sl (.call f_taken (.cons (.v 0) (.cons (.v 1) .nil))) (.cst (.int 1)) .no)) .nil
def k_law_by_program_1 : Cs := .cons (.cond (.cmp .Eq (.ix (.v 2) (.cst (.int 0))) (.cst (.str "take"))) k_law_by_program_1a0 .nil) k_law_by_program_2
def k_law_by_program_0a0 : Cs := .cons (.ret (.call f_put (.cons (.v 0) (.cons (.v 1) (.cons (.ix (.v 2) (.cst (.int 1))) .nil))))) .nil
def k_law_by_program_0 : Cs := .cons (.cond (.cmp .Eq (.ix (.v 2) (.cst (.int 0))) (.cst (.str "put"))) k_law_by_program_0a0 .nil) k_law_by_program_1
def b_law_by_program : Fn := ⟨3, 3, k_law_by_program_0⟩
def k_law_grown_2 : Cs := .cons (.ret (.v 4)) .nil
def k_law_grown_1a0 : Cs := .cons (.set 4 (.ix (.call f_law_by_program (.cons (.v 1) (.cons (.v 4) (.cons (.call f_law_deed (.cons (.v 0) (.cons (.call f_law_items (.cons (.v 1) (.cons (.v 4) .nil))) (.cons (.bin .Add (.v 3) (.v 5)) .nil)))) .nil)))) (.cst (.int 0)))) .nil
def k_law_grown_1 : Cs := .cons (.for_ (.nm 5) (.rng (.cst (.int 0)) (.v 2)) k_law_grown_1a0) k_law_grown_2
def k_law_grown_0 : Cs := .cons (.set 4 (.tup .nil)) k_law_grown_1
def b_law_grown : Fn := ⟨4, 6, k_law_grown_0⟩
def k_law_1 : Cs := .cons (.ret (.cst (.bl true))) .nil
def k_law_0a5a0a0 : Cs := .cons (.ret (.cst (.bl false))) .nil
def k_law_0a5a0 : Cs := .cons (.cond (.not (.call f_law_same (.cons (.call f_joined_deeds (.cons (.cst (.str "pair")) (.cons (.v 6) (.cons (.v 7) .nil)))) (.cons (.call f_law_pair_join (.cons (.cst (.str "pair")) (.cons (.v 6) (.cons (.v 7) .nil)))) .nil)))) k_law_0a5a0a0 .nil) .nil
def k_law_0a5 : Cs := .cons (.for_ (.tp (.cons (.nm 6) (.cons (.nm 7) .nil))) (.seq (.lst (.cons (.tup (.cons (.v 3) (.cons (.v 4) .nil))) (.cons (.tup (.cons (.v 4) (.cons (.v 3) .nil))) .nil)))) k_law_0a5a0) .nil
def k_law_0a4a0 : Cs := .cons (.ret (.cst (.bl false))) .nil
def k_law_0a4 : Cs := .cons (.cond (.not (.call f_law_same (.cons (.call f_put (.cons (.cst (.str "pair")) (.cons (.v 3) (.cons (.v 5) .nil)))) (.cons (.call f_law_pair_join (.cons (.cst (.str "pair")) (.cons (.v 3) (.cons (.tup (.cons (.v 5) (.cons (.tup .nil) .nil))) .nil)))) .nil)))) k_law_0a4a0 .nil) k_law_0a5
def k_law_0a3 : Cs := .cons (.set 5 (.tup (.cons (.call f_law_key (.cons (.v 2) .nil)) (.cons (.call f_law_one_of (.cons (.v 2) (.cons (.lst (.cons (.cst (.int 300)) (.cons (.bin .Pow (.cst (.int 10)) (.cst (.int 6))) .nil))) .nil))) .nil)))) k_law_0a4
def k_law_0a2 : Cs := .cons (.set 4 (.call f_law_grown (.cons (.v 2) (.cons (.cst (.str "pair")) (.cons (.call f_law_one_of (.cons (.v 2) (.cons (.lst (.cons (.call f_law_take (.cons (.v 2) (.cons (.cst (.int 23)) .nil))) (.cons (.cst (.int 0)) (.cons (.cst (.int 1)) (.cons (.cst (.int 20)) .nil))))) .nil))) (.cons (.cst (.int 100)) .nil)))))) k_law_0a3
def k_law_0a1 : Cs := .cons (.set 3 (.call f_law_grown (.cons (.v 2) (.cons (.cst (.str "pair")) (.cons (.call f_law_one_of (.cons (.v 2) (.cons (.lst (.cons (.call f_law_take (.cons (.v 2) (.cons (.cst (.int 23)) .nil))) (.cons (.cst (.int 0)) (.cons (.cst (.int 1)) (.cons (.cst (.int 22)) .nil))))) .nil))) (.cons (.cst (.int 0)) .nil)))))) k_law_0a2
def k_law_0a0 : Cs := .cons (.set 2 (.call f_law_source (.cons (.v 1) .nil))) k_law_0a1
def k_law_0 : Cs := .cons (.for_ (.nm 1) (.seq (.sl (.bin .Add (.lst (.cons (.cst (.int 0)) .nil)) (.v 0)) .no (.cst (.int 8)))) k_law_0a0) k_law_1
def b_law : Fn := ⟨1, 8, k_law_0⟩
def PP : Prog := fun f => match f with
  | 0 => some b_is_whole
  | 1 => some b_trees_of
  | 2 => some b_kids_of
  | 3 => some b_Table_init__
  | 4 => some b_Table_add
  | 5 => some b_Table_item
  | 6 => some b_Table_is_less
  | 7 => some b_Table_sorted_two
  | 8 => some b_Table_opened
  | 9 => some b_Table_set_rank
  | 10 => some b_Table_rank
  | 11 => some b_Table_hang
  | 12 => some b_Table_tree
  | 13 => some b_Table_shape
  | 14 => some b_table_of
  | 15 => some b_least
  | 16 => some b_meet
  | 17 => some b_swap_sides
  | 18 => some b_set_root
  | 19 => some b_replace
  | 20 => some b_joined_sides
  | 21 => some b_taken_out
  | 22 => some b_lowered_sides
  | 23 => some b_tie
  | 24 => some b_freed
  | 25 => some b_loosen
  | 26 => some b_tied_all
  | 27 => some b_gathered
  | 28 => some b_pair_taken_out
  | 29 => some b_pair_lowered
  | 30 => some b_by_ranks
  | 31 => some b_count_joined
  | 32 => some b_count_up
  | 33 => some b_change
  | 34 => some b_count_taken_out
  | 35 => some b_cut_off
  | 36 => some b_cleared
  | 37 => some b_cut_taken_out
  | 38 => some b_all_joined
  | 39 => some b_gone
  | 40 => some b_moved
  | 41 => some b_joined_deeds
  | 42 => some b_put
  | 43 => some b_taken
  | 44 => some b_check_ticket
  | 45 => some b_lowered_deeds
  | 46 => some b_dropped
  | 47 => some b_law_stir
  | 48 => some b_law_source
  | 49 => some b_law_take
  | 50 => some b_law_one_of
  | 51 => some b_law_sort
  | 52 => some b_law_same
  | 53 => some b_law_key
  | 54 => some b_law_tie
  | 55 => some b_law_trees
  | 56 => some b_law_kids
  | 57 => some b_law_items
  | 58 => some b_law_deed
  | 59 => some b_law_pair_join
  | 60 => some b_law_by_program
  | 61 => some b_law_grown
  | 62 => some b_law
  | _ => none
end Mn

/-! More words for proofs over the small language. -/
namespace Mn
open PySem
/-- a for by what holds ahead of its i-th turn -/
theorem for_at {t : Tg} {G : Store → Prop} {b : Ends → Env → Store → Prop} {K : Ends} (hb : BMono b) (l : List D) (I : Nat → Env → Store → Prop) (hG : ∀ i ρ S, I i ρ S → G S) (hend : ∀ ρ S, I l.length ρ S → K.nx ρ S)
    (hs : ∀ i d, l[i]? = some d → ∀ ρ S, I i ρ S → ∃ ρ1, t.bind d ρ = some ρ1 ∧ b { K with nx := I (i + 1), ct := I (i + 1), bk := K.nx } ρ1 S) {ρ : Env} {S : Store} (h : I 0 ρ S) : wpFor t G b K l ρ S := by
  have key : ∀ (r : List D) (i : Nat), (∀ k, r[k]? = l[i + k]?) → i + r.length = l.length → ∀ ρ S, I i ρ S → wpFor t G b K r ρ S := by
    intro r
    induction r with
    | nil =>
      intro i _ hl ρ S h
      refine ⟨hG i ρ S h, hend ρ S ?_⟩
      simp at hl
      rw [← hl]
      exact h
    | cons d r ih =>
      intro i hk hl ρ S h
      refine ⟨hG i ρ S h, ?_⟩
      obtain ⟨ρ1, e, q⟩ := hs i d (by have := hk 0; simpa using this.symm) ρ S h
      rw [e]
      have nx : ∀ ρ S, I (i + 1) ρ S → wpFor t G b K r ρ S := ih (i + 1) (fun k => by have := hk (k + 1); simp at this; rw [this, show i + (k + 1) = i + 1 + k by omega]) (by simp at hl; omega)
      exact hb { K with nx := I (i + 1), ct := I (i + 1), bk := K.nx } _ _ _ ⟨nx, fun _ _ z => z, fun _ _ z => z, nx, fun _ _ z => z⟩ q
  exact key l 0 (fun k => by rw [Nat.zero_add]) (by omega) ρ S h
theorem wh_fuel {c : Env → Store → DK → Prop} {b : Ends → Env → Store → Prop} {K : Ends} (hc : TMono c) (hb : BMono b) : ∀ (n m : Nat), n ≤ m → ∀ ρ S, wpWh c b K n ρ S → wpWh c b K m ρ S
  | 0, _, _, _, _, h => h.elim
  | n + 1, m, hm, ρ, S, h => by
    obtain ⟨k, rfl⟩ : ∃ k, m = k + 1 := ⟨m - 1, by omega⟩
    have ih := wh_fuel (K := K) hc hb n k (by omega)
    refine hc ρ S _ _ (fun x S1 q => ?_) h
    split at q
    · exact hb { K with nx := wpWh c b K n, ct := wpWh c b K n, bk := K.nx } _ _ _ ⟨ih, fun _ _ z => z, fun _ _ z => z, ih, fun _ _ z => z⟩ q
    · exact q
    · exact q.elim
/-- a while by a measure -/
theorem wh_at {c : Env → Store → DK → Prop} {b : Ends → Env → Store → Prop} {K : Ends} (hc : TMono c) (hb : BMono b) (I : Nat → Env → Store → Prop)
    (hs : ∀ n ρ S, I n ρ S → c ρ S fun x S1 => match x with
      | .bl true => b { K with nx := fun ρ S => ∃ m, m < n ∧ I m ρ S, ct := fun ρ S => ∃ m, m < n ∧ I m ρ S, bk := K.nx } ρ S1
      | .bl false => K.nx ρ S1
      | _ => False) : ∀ (n : Nat) {ρ : Env} {S : Store}, I n ρ S → ∃ k, wpWh c b K k ρ S := by
  have key : ∀ n ρ S, I n ρ S → wpWh c b K (n + 1) ρ S := by
    intro n
    induction n using Nat.strongRecOn with
    | ind n ih =>
      intro ρ S h
      refine hc ρ S _ _ (fun x S1 q => ?_) (hs n ρ S h)
      have go : ∀ ρ S, (∃ j, j < n ∧ I j ρ S) → wpWh c b K n ρ S := fun ρ S ⟨j, hj, z⟩ => wh_fuel hc hb (j + 1) n (by omega) ρ S (ih j hj ρ S z)
      split at q
      · exact hb { K with nx := fun ρ S => ∃ m, m < n ∧ I m ρ S, ct := fun ρ S => ∃ m, m < n ∧ I m ρ S, bk := K.nx } _ _ _ ⟨go, fun _ _ z => z, fun _ _ z => z, go, fun _ _ z => z⟩ q
      · exact q
      · exact q.elim
  exact fun n ρ S h => ⟨n + 1, key n ρ S h⟩
theorem tmono {P : Prog} {n : Nat} {X : XK} (e : E) : TMono (fun ρ S Q => wpE (callN P n) e ρ S Q X) := fun ρ S Q Q' h q => wpE_mono (callN_mono P n) e h (fun _ _ z => z) q
/-- a list comprehension by what holds ahead of its i-th turn -/
theorem lc_at {t : Tg} {G : Store → Prop} {c e : Env → Store → DK → Prop} {Q : Store → Prop} {n : Nat} {ρ : Env} (hc : TMono c) (he : TMono e) (l : List D) (I : Nat → List D → Store → Prop) (hG : ∀ i acc S, I i acc S → G S) (hend : ∀ acc S, I l.length acc S → Q S)
    (hs : ∀ i d, l[i]? = some d → ∀ acc S, I i acc S → ∃ ρ1, t.bind d ρ = some ρ1 ∧ c ρ1 S fun x S1 => match x with
      | .bl true => e ρ1 S1 fun y S2 => S2[n]? = some (.lst acc) ∧ acc.length < lim ∧ I (i + 1) (acc ++ [y]) (S2.set n (.lst (acc ++ [y])))
      | .bl false => I (i + 1) acc S1
      | _ => False) {acc : List D} {S : Store} (h : I 0 acc S) : wpLc t G c e Q n ρ l acc S := by
  have key : ∀ (r : List D) (i : Nat), (∀ k, r[k]? = l[i + k]?) → i + r.length = l.length → ∀ acc S, I i acc S → wpLc t G c e Q n ρ r acc S := by
    intro r
    induction r with
    | nil =>
      intro i _ hl acc S h
      refine ⟨hG i acc S h, hend acc S ?_⟩
      simp at hl
      rw [← hl]
      exact h
    | cons d r ih =>
      intro i hk hl acc S h
      refine ⟨hG i acc S h, ?_⟩
      obtain ⟨ρ1, e1, q⟩ := hs i d (by have := hk 0; simpa using this.symm) acc S h
      rw [e1]
      have nx := ih (i + 1) (fun k => by have := hk (k + 1); simp at this; rw [this, show i + (k + 1) = i + 1 + k by omega]) (by simp at hl; omega)
      refine hc _ _ _ _ (fun x S1 q1 => ?_) q
      split at q1
      · exact he _ _ _ _ (fun y S2 q2 => ⟨q2.1, q2.2.1, nx _ _ q2.2.2⟩) q1
      · exact nx _ _ q1
      · exact q1.elim
  exact key l 0 (fun k => by rw [Nat.zero_add]) (by omega) acc S h
/-- a list comprehension whose parts leave the store as it is -/
theorem lc_map {t : Tg} {G : Store → Prop} {c e : Env → Store → DK → Prop} {Q : Store → Prop} {ρ : Env} {S1 : Store} (hc : TMono c) (he : TMono e) (p : D → Bool) (f : D → D) : ∀ (l : List D) (acc : List D), (∀ acc, G (S1 ++ [.lst acc])) → acc.length + l.length ≤ lim →
    (∀ d ∈ l, ∃ ρ1, t.bind d ρ = some ρ1 ∧ ∀ acc, (∀ K : DK, K (.bl (p d)) (S1 ++ [.lst acc]) → c ρ1 (S1 ++ [.lst acc]) K) ∧ (p d = true → ∀ K : DK, K (f d) (S1 ++ [.lst acc]) → e ρ1 (S1 ++ [.lst acc]) K)) →
    Q (S1 ++ [.lst (acc ++ (l.filter p).map f)]) → wpLc t G c e Q S1.length ρ l acc (S1 ++ [.lst acc])
  | [], acc, hG, _, _, h => ⟨hG acc, by simpa using h⟩
  | d :: r, acc, hG, hl, hs, h => by
    refine ⟨hG acc, ?_⟩
    obtain ⟨ρ1, e1, h1⟩ := hs d List.mem_cons_self
    rw [e1]
    obtain ⟨h2, h3⟩ := h1 acc
    refine h2 _ ?_
    have e0 : (S1 ++ [Ob.lst acc])[S1.length]? = some (.lst acc) := by simp
    cases hp : p d with
    | true =>
      dsimp only
      refine h3 hp _ ⟨e0, ?_, ?_⟩
      · simp at hl
        omega
      · have e2 : (S1 ++ [Ob.lst acc]).set S1.length (.lst (acc ++ [f d])) = S1 ++ [.lst (acc ++ [f d])] := by simp
        rw [e2]
        refine lc_map hc he p f r (acc ++ [f d]) hG (by simp at hl ⊢; omega) (fun d hd => hs d (List.mem_cons_of_mem _ hd)) ?_
        simpa [List.filter_cons, hp] using h
    | false =>
      dsimp only
      refine lc_map hc he p f r acc hG (by simp at hl ⊢; omega) (fun d hd => hs d (List.mem_cons_of_mem _ hd)) ?_
      simpa [List.filter_cons, hp] using h
/-- a dict comprehension whose parts leave the store as it is -/
theorem dc_map {t : Tg} {G : Store → Prop} {c e : Env → Store → DK → Prop} {Q : Store → Prop} {ρ : Env} {S1 : Store} (hc : TMono c) (he : TMono e) (k : D → Key) (f : D → D) : ∀ (l : List D) (acc : List (Key × D)), (∀ acc, G (S1 ++ [.dct acc])) → acc.length + l.length ≤ lim →
    (∀ d ∈ l, ∃ ρ1, t.bind d ρ = some ρ1 ∧ ∀ acc, (∀ K : DK, K (keyD (k d)) (S1 ++ [.dct acc]) → c ρ1 (S1 ++ [.dct acc]) K) ∧ (∀ K : DK, K (f d) (S1 ++ [.dct acc]) → e ρ1 (S1 ++ [.dct acc]) K)) →
    Q (S1 ++ [.dct (l.foldl (fun a d => dPut a (k d) (f d)) acc)]) → wpDc t G c e Q S1.length ρ l acc (S1 ++ [.dct acc])
  | [], acc, hG, _, _, h => ⟨hG acc, h⟩
  | d :: r, acc, hG, hl, hs, h => by
    refine ⟨hG acc, ?_⟩
    obtain ⟨ρ1, e1, h1⟩ := hs d List.mem_cons_self
    rw [e1]
    obtain ⟨h2, h3⟩ := h1 acc
    refine h2 _ ?_
    have ek : keyOf (keyD (k d)) = some (k d) := by cases k d <;> rfl
    rw [ek]
    dsimp only
    refine h3 _ ⟨by simp, by simp at hl; omega, ?_⟩
    have e2 : (S1 ++ [Ob.dct acc]).set S1.length (.dct (dPut acc (k d) (f d))) = S1 ++ [.dct (dPut acc (k d) (f d))] := by simp
    rw [e2]
    refine dc_map hc he k f r _ hG ?_ (fun d hd => hs d (List.mem_cons_of_mem _ hd)) h
    have : (dPut acc (k d) (f d)).length ≤ acc.length + 1 := by
      unfold dPut
      split <;> simp
    simp at hl ⊢
    omega
/-! ### the store grows only -/
def Ext (S S' : Store) : Prop := ∃ T, S' = S ++ T
theorem Ext.refl (S : Store) : Ext S S := ⟨[], by simp⟩
theorem Ext.push (S : Store) (o : Ob) : Ext S (S ++ [o]) := ⟨[o], rfl⟩
theorem Ext.trans {S S1 S2 : Store} (a : Ext S S1) (b : Ext S1 S2) : Ext S S2 := by
  obtain ⟨T, rfl⟩ := a
  obtain ⟨U, rfl⟩ := b
  exact ⟨T ++ U, by simp⟩
theorem Ext.get {S S' : Store} {n : Nat} {o : Ob} (a : Ext S S') (h : S[n]? = some o) : S'[n]? = some o := by
  obtain ⟨T, rfl⟩ := a
  rw [List.getElem?_append_left (List.getElem?_eq_some_iff.mp h).1]
  exact h
theorem Ext.lst {S S' : Store} {n : Nat} {l : List D} (a : Ext S S') (h : lst? S n = some l) : lst? S' n = some l := lst_of (a.get (lst_lt h).2)
theorem Ext.fr {S S' : Store} (s : Nat) (a : Ext S S') : Fr s S S' := by
  obtain ⟨T, rfl⟩ := a
  exact Fr.push T
theorem Ext.len {S S' : Store} (a : Ext S S') : S.length ≤ S'.length := by
  obtain ⟨T, rfl⟩ := a
  simp
theorem last_get (S : Store) (o : Ob) : (S ++ [o])[S.length]? = some o := by simp
theorem last_lst2 (S : Store) (l : List D) : lst? (S ++ [.lst l]) S.length = some l := lst_of (last_get S _)
/-- is it an empty tuple? -/
theorem eq_nil {S : Store} {l : List D} {p : List PyData} {K : Bool → Prop} (hs : Snaps S l p) (hc : (PyData.tuple p).canLay0 = true) (h : K (l.isEmpty)) : cEq (.tup l) (.tup []) S K := by
  refine ⟨.tuple p, .tuple [], .tup hs, .tup .nil, hc, rfl, ?_, ?_⟩
  · have : (PyData.tuple []).depth ≤ 150 := by decide
    omega
  · have : PyData.eqv (.tuple p) (.tuple []) = l.isEmpty := by
      cases hs with
      | nil => rfl
      | cons _ _ => rfl
    rw [this]
    exact h
theorem Ext.set {S S' : Store} {n : Nat} (a : Ext S S') (h : S.length ≤ n) (o : Ob) : Ext S (S'.set n o) := by
  obtain ⟨T, rfl⟩ := a
  exact ⟨T.set (n - S.length) o, by rw [List.set_append_right _ _ h]⟩
theorem get_set {S : Store} {n : Nat} {o o' : Ob} (h : S[n]? = some o) : (S.set n o')[n]? = some o' := List.getElem?_set_self (List.getElem?_eq_some_iff.mp h).1
theorem get_set_ne {S : Store} {n m : Nat} {o o' : Ob} (h : S[m]? = some o) (hn : n ≠ m) : (S.set n o')[m]? = some o := by rw [List.getElem?_set_ne hn]; exact h
theorem get_push {S : Store} {m : Nat} {o : Ob} (h : S[m]? = some o) (T : List Ob) : (S ++ T)[m]? = some o := by rw [List.getElem?_append_left (List.getElem?_eq_some_iff.mp h).1]; exact h
theorem get_lt {S : Store} {m : Nat} {o : Ob} (h : S[m]? = some o) : m < S.length := (List.getElem?_eq_some_iff.mp h).1
/-- is it an empty list? -/
theorem lnil_cmp {S : Store} {x y : D} {l : List D} {p : List PyData} {K : Bool → Prop} (h1 : lq? S x = some l) (h2 : lq? S y = some []) (hx : x.scal = false) (hs : Snaps S l p) (hc : PyData.canLayAll0 p = true) (h : K l.isEmpty) : cEq x y S K := by
  unfold cEq
  rw [hx]
  refine ⟨.list p, .list [], .lst h1 hs, .lst h2 .nil, hc, rfl, ?_, ?_⟩
  · have : (PyData.list []).depth ≤ 150 := by decide
    omega
  · have : PyData.eqv (.list p) (.list []) = l.isEmpty := by
      cases hs with
      | nil => rfl
      | cons _ _ => rfl
    rw [this]
    exact h
theorem lnil_ne {S : Store} {x y : D} {l : List D} {p : List PyData} {K : Bool → Prop} (h1 : lq? S x = some l) (h2 : lq? S y = some []) (hx : x.scal = false) (hs : Snaps S l p) (hc : PyData.canLayAll0 p = true) (h : K (!l.isEmpty)) : cmpB .NotEq x y S K := by
  show cEq x y S fun b => K (!b)
  exact lnil_cmp (K := fun b => K (!b)) h1 h2 hx hs hc h
theorem lnil_eq {S : Store} {x y : D} {l : List D} {p : List PyData} {K : Bool → Prop} (h1 : lq? S x = some l) (h2 : lq? S y = some []) (hx : x.scal = false) (hs : Snaps S l p) (hc : PyData.canLayAll0 p = true) (h : K l.isEmpty) : cmpB .Eq x y S K := lnil_cmp h1 h2 hx hs hc h
/-! ### methods of a list, a dict in the store -/
theorem recv_l {S : Store} {n : Nat} {l : List D} (h : S[n]? = some (.lst l)) : (lq? S (.ref n)).isSome = true := by
  show (lst? S n).isSome = true
  rw [lst_of h]
  rfl
theorem dct_of {S : Store} {n : Nat} {l : List (Key × D)} (h : S[n]? = some (.dct l)) : dct? S (.ref n) = some l := by
  unfold dct?
  dsimp only
  rw [h]
theorem recv_d {S : Store} {n : Nat} {l : List (Key × D)} (h : S[n]? = some (.dct l)) : (dct? S (.ref n)).isSome = true := by
  rw [dct_of h]
  rfl
theorem pop_go {S : Store} {n : Nat} {l : List D} {d : D} {Q : DK} (h : S[n]? = some (.lst (l ++ [d]))) (q : Q d (S.set n (.lst l))) : bm .pop (.ref n) [] S Q := by
  show mPop (.ref n) [] S Q
  unfold mPop
  dsimp only
  rw [h]
  dsimp only
  rw [List.getLast?_concat]
  dsimp only
  rw [List.dropLast_concat]
  exact q
theorem append_go {S : Store} {n : Nat} {l : List D} {d : D} {Q : DK} (h : S[n]? = some (.lst l)) (hl : l.length < 1000000) (q : Q .non (S.set n (.lst (l ++ [d])))) : bm .append (.ref n) [d] S Q := by
  show mAppend (.ref n) [d] S Q
  unfold mAppend
  dsimp only
  rw [h]
  exact ⟨hl, q⟩
theorem get1_go {S : Store} {n : Nat} {kvs : List (Key × D)} {k : Key} {Q : DK} (h : S[n]? = some (.dct kvs)) (q : Q ((dGet kvs k).getD .non) S) : bm .get1 (.ref n) [keyD k] S Q := by
  show mGet none (.ref n) (keyD k) S Q
  unfold mGet
  rw [dct_of h, show keyOf (keyD k) = some k by cases k <;> rfl]
  exact q
theorem setD_go {S : Store} {n : Nat} {kvs : List (Key × D)} {k : Key} {v : D} {Q : Store → Prop} (h : S[n]? = some (.dct kvs)) (hl : kvs.length < 1000000) (q : Q (S.set n (.dct (dPut kvs k v)))) : setIx (.ref n) (keyD k) v S Q := by
  unfold setIx
  dsimp only
  rw [h]
  dsimp only
  rw [show keyOf (keyD k) = some k by cases k <;> rfl]
  exact ⟨hl, q⟩
theorem iadd_go {S : Store} {n b : Nat} {l k : List D} {Q : DK} (h1 : S[n]? = some (.lst l)) (h2 : S[b]? = some (.lst k)) (hl : l.length + k.length ≤ 1000000) (q : Q (.ref n) (S.set n (.lst (l ++ k)))) : iop .Add (.ref n) (.ref b) S Q := by
  unfold iop
  dsimp only
  rw [h1, h2]
  exact ⟨hl, q⟩
theorem ix_go {S : Store} {x : D} {l : List D} {i : Int} {d : D} {Q : DK} (h : seq? S x = some l) (e : L2.atI l i = some d) (q : Q d S) : ixD x (.int i) S Q := by
  unfold ixD
  rw [h]
  dsimp only
  rw [e]
  exact q
theorem es_nil {F : Sem} {ρ : Env} {S : Store} {Q : List D → Store → Prop} {X : XK} (h : Q [] S) : wpEs F .nil ρ S Q X := h
theorem it_tup {l : List D} {S : Store} {R : List D → (Store → Prop) → Prop} (h : R l fun _ => True) : itSeq (.tup l) S R := h
theorem it_lst {n : Nat} {l : List D} {S : Store} {R : List D → (Store → Prop) → Prop} (e : S[n]? = some (.lst l)) (h : R l fun S => lst? S n = some l) : itSeq (.ref n) S R := by
  unfold itSeq
  dsimp only
  rw [lst_of e]
  exact h
end Mn

/-! Data of whole numbers alone; soft trees as such. -/
namespace Mn
open PySem
mutual
/-- whole numbers and tuples of such -/
def D.num : D → Bool
  | .int _ => true
  | .tup l => nums l
  | _ => false
def nums : List D → Bool
  | [] => true
  | d :: r => d.num && nums r
end
mutual
def D.dep : D → Nat
  | .tup l => deps l + 1
  | _ => 0
def deps : List D → Nat
  | [] => 0
  | d :: r => max d.dep (deps r)
end
mutual
theorem num_lay : ∀ {d : D}, d.num = true → d.py.canLay0 = true
  | .int _, _ => rfl
  | .tup l, h => nums_lay h
  | .non, h => by cases h
  | .bl _, h => by cases h
  | .str _, h => by cases h
  | .fl _, h => by cases h
  | .ref _, h => by cases h
theorem nums_lay : ∀ {l : List D}, nums l = true → PyData.canLayAll0 (pys l) = true
  | [], _ => rfl
  | d :: r, h => by
    obtain ⟨h1, h2⟩ := Bool.and_eq_true_iff.mp (show (d.num && nums r) = true from h)
    show (PyData.canLay0 d.py && PyData.canLayAll0 (pys r)) = true
    rw [num_lay h1, nums_lay h2]
    rfl
end
mutual
theorem num_snap (S : Store) : ∀ {d : D}, d.num = true → Snap S d d.py
  | .int i, _ => .int i
  | .tup l, h => .tup (nums_snap S h)
  | .non, h => by cases h
  | .bl _, h => by cases h
  | .str _, h => by cases h
  | .fl _, h => by cases h
  | .ref _, h => by cases h
theorem nums_snap (S : Store) : ∀ {l : List D}, nums l = true → Snaps S l (pys l)
  | [], _ => .nil
  | d :: r, h => by
    obtain ⟨h1, h2⟩ := Bool.and_eq_true_iff.mp (show (d.num && nums r) = true from h)
    exact .cons (num_snap S h1) (nums_snap S h2)
end
mutual
theorem num_dep : ∀ {d : D}, d.num = true → d.py.depth = d.dep
  | .int _, _ => rfl
  | .tup l, h => by
    show PyData.depthAll (pys l) + 1 = deps l + 1
    rw [nums_dep h]
  | .non, h => by cases h
  | .bl _, h => by cases h
  | .str _, h => by cases h
  | .fl _, h => by cases h
  | .ref _, h => by cases h
theorem nums_dep : ∀ {l : List D}, nums l = true → PyData.depthAll (pys l) = deps l
  | [], _ => rfl
  | d :: r, h => by
    obtain ⟨h1, h2⟩ := Bool.and_eq_true_iff.mp (show (d.num && nums r) = true from h)
    show max d.py.depth (PyData.depthAll (pys r)) = max d.dep (deps r)
    rw [num_dep h1, nums_dep h2]
end
mutual
theorem eqv_num : ∀ {d : D}, d.num = true → PyData.eqv d.py d.py = true
  | .int i, _ => by simp [D.py, PyData.eqv]
  | .tup l, h => eqvs_num h
  | .non, h => by cases h
  | .bl _, h => by cases h
  | .str _, h => by cases h
  | .fl _, h => by cases h
  | .ref _, h => by cases h
theorem eqvs_num : ∀ {l : List D}, nums l = true → PyData.eqvAll (pys l) (pys l) = true
  | [], _ => rfl
  | d :: r, h => by
    obtain ⟨h1, h2⟩ := Bool.and_eq_true_iff.mp (show (d.num && nums r) = true from h)
    show (PyData.eqv d.py d.py && PyData.eqvAll (pys r) (pys r)) = true
    rw [eqv_num h1, eqvs_num h2]
    rfl
end
theorem cEq_num {S : Store} {d : D} {K : Bool → Prop} (h : d.num = true) (hd : d.dep ≤ 150) (k : K true) : cEq d d S K := by
  unfold cEq
  split
  · cases d with
    | int i =>
      have : D.sEq (.int i) (.int i) = true := by simp [D.sEq]
      rw [this]
      exact k
    | tup l => rename_i e; cases e
    | _ => cases h
  · refine ⟨d.py, d.py, num_snap S h, num_snap S h, num_lay h, num_lay h, ?_, ?_⟩
    · rw [num_dep h]
      omega
    · rw [eqv_num h]
      exact k
theorem eq_nil_num {S : Store} {l : List D} {K : Bool → Prop} (h : nums l = true) (k : K l.isEmpty) : cEq (.tup l) (.tup []) S K := eq_nil (nums_snap S h) (nums_lay h) k
/-! ### soft trees -/
inductive SH where
  | nil
  | node (rank key : Int) (row : List (Int × Int)) (one other : SH)
  deriving DecidableEq
def itD (p : Int × Int) : D := .tup [.int p.1, .int p.2]
def SH.l : SH → List D
  | .nil => []
  | .node r k row a b => [.int r, .int k, .tup (row.map itD), .tup a.l, .tup b.l]
abbrev SH.d (t : SH) : D := .tup t.l
def SH.nodes : SH → Nat
  | .nil => 0
  | .node _ _ _ a b => a.nodes + b.nodes + 1
def SH.key : SH → Int
  | .nil => 0
  | .node _ k _ _ _ => k
def SH.rank : SH → Int
  | .nil => 0
  | .node r _ _ _ _ => r
def SH.row : SH → List (Int × Int)
  | .nil => []
  | .node _ _ row _ _ => row
def SH.one : SH → SH
  | .nil => .nil
  | .node _ _ _ a _ => a
def SH.other : SH → SH
  | .nil => .nil
  | .node _ _ _ _ b => b
def SH.leaf : SH → Bool
  | .nil => true
  | .node _ _ _ .nil .nil => true
  | _ => false
def SH.isNil : SH → Bool
  | .nil => true
  | _ => false
/-- the row taken out -/
def SH.emptied : SH → SH
  | .nil => .nil
  | .node r k _ a b => .node r k [] a b
def wantN : Nat → Int
  | 0 => 1
  | k + 1 => (3 * wantN k + 1) / 2
def want (r s : Int) : Int := wantN (r - s).toNat
theorem want_pos (k : Nat) : 1 ≤ wantN k := by
  induction k with
  | zero => exact Int.le_refl _
  | succ k ih =>
    show 1 ≤ (3 * wantN k + 1) / 2
    omega
theorem want_le (k : Nat) : wantN k ≤ 2 ^ k := by
  induction k with
  | zero => exact Int.le_refl _
  | succ k ih =>
    have h := want_pos k
    show (3 * wantN k + 1) / 2 ≤ 2 ^ (k + 1)
    have e : (2 : Int) ^ (k + 1) = 2 * 2 ^ k := by rw [Int.pow_succ]; omega
    omega
/-- which side is taken first -/
def firstS (a b : SH) : SH × SH := if a.isNil || (!b.isNil && decide (b.key < a.key)) then (b, a) else (a, b)
/-- is the root filled on -/
def goesOn (sl : Int) : SH → Bool
  | .nil => false
  | .node r _ row a b => decide ((row.length : Int) < want r sl) && (!a.isNil || !b.isNil)
def fillF (sl : Int) : Nat → SH → SH
  | 0, t => t
  | n + 1, t => if goesOn sl t then
      fillF sl n (.node t.rank (firstS t.one t.other).1.key (t.row ++ (firstS t.one t.other).1.row)
        (if (firstS t.one t.other).1.leaf then .nil else fillF sl n (firstS t.one t.other).1.emptied) (firstS t.one t.other).2)
    else t
theorem leaf_iff (t : SH) : t.leaf = (t.one.isNil && t.other.isNil) := by
  cases t with
  | nil => rfl
  | node r k row a b => cases a <;> cases b <;> rfl
theorem firstS_nodes (a b : SH) : (firstS a b).1.nodes + (firstS a b).2.nodes = a.nodes + b.nodes := by
  unfold firstS
  split <;> simp <;> omega
theorem firstS_ne {a b : SH} (h : (!a.isNil || !b.isNil) = true) : (firstS a b).1.isNil = false := by
  unfold firstS
  cases hc : (a.isNil || (!b.isNil && decide (b.key < a.key))) with
  | true =>
    rw [if_pos rfl]
    cases b with
    | nil => cases a <;> simp [SH.isNil] at h hc
    | node _ _ _ _ _ => rfl
  | false =>
    rw [if_neg Bool.false_ne_true]
    cases a with
    | nil => simp [SH.isNil] at hc
    | node _ _ _ _ _ => rfl
theorem nodes_pos {t : SH} (h : t.isNil = false) : 1 ≤ t.nodes := by
  cases t with
  | nil => cases h
  | node r k row a b =>
    show 1 ≤ a.nodes + b.nodes + 1
    omega
theorem emptied_nodes (t : SH) : t.emptied.nodes = t.nodes := by cases t <;> rfl
theorem emptied_goes {sl : Int} {t : SH} (h : t.leaf = false) : goesOn sl t.emptied = true := by
  cases t with
  | nil => cases h
  | node r k row a b =>
    have hw := want_pos (r - sl).toNat
    show (decide (((0 : Nat) : Int) < want r sl) && (!a.isNil || !b.isNil)) = true
    have h1 : (((0 : Nat) : Int) < want r sl) := by
      unfold want
      omega
    rw [decide_eq_true h1]
    rw [leaf_iff] at h
    simp [SH.one, SH.other] at h ⊢
    cases a <;> cases b <;> simp [SH.isNil] at h ⊢
/-- a root that is filled on loses a node -/
theorem fill_nodes {sl : Int} : ∀ (n : Nat) (t : SH), t.nodes ≤ n → (fillF sl n t).nodes ≤ t.nodes ∧ (goesOn sl t = true → (fillF sl n t).nodes < t.nodes)
  | 0, t, h => by
    have e : t = .nil := by
      cases t with
      | nil => rfl
      | node r k row a b =>
        have h2 : a.nodes + b.nodes + 1 ≤ 0 := h
        omega
    subst e
    exact ⟨Nat.le_refl _, fun z => by cases z⟩
  | n + 1, t, h => by
    unfold fillF
    cases hg : goesOn sl t with
    | false => exact ⟨Nat.le_refl _, fun z => by cases z⟩
    | true =>
      rw [if_pos rfl]
      cases t with
      | nil => cases hg
      | node r k row a b =>
        have hk : (!a.isNil || !b.isNil) = true := (Bool.and_eq_true_iff.mp hg).2
        have hf := firstS_nodes a b
        have hn := nodes_pos (firstS_ne hk)
        have ht : a.nodes + b.nodes + 1 ≤ n + 1 := h
        have hb : (if (firstS a b).1.leaf = true then SH.nil else fillF sl n (firstS a b).1.emptied).nodes < (firstS a b).1.nodes := by
          cases hl : (firstS a b).1.leaf with
          | true => exact hn
          | false =>
            have h2 := (fill_nodes (sl := sl) n (firstS a b).1.emptied (by rw [emptied_nodes]; omega)).2 (emptied_goes hl)
            rw [emptied_nodes] at h2
            simpa using h2
        have h3 := (fill_nodes (sl := sl) n (.node r (firstS a b).1.key (row ++ (firstS a b).1.row) (if (firstS a b).1.leaf = true then SH.nil else fillF sl n (firstS a b).1.emptied) (firstS a b).2) (by
          show _ + _ + 1 ≤ n
          omega)).1
        have h4 : (fillF sl n (.node r (firstS a b).1.key (row ++ (firstS a b).1.row) (if (firstS a b).1.leaf = true then SH.nil else fillF sl n (firstS a b).1.emptied) (firstS a b).2)).nodes < a.nodes + b.nodes + 1 := by
          refine Nat.lt_of_le_of_lt h3 ?_
          show _ + _ + 1 < _
          omega
        exact ⟨Nat.le_of_lt h4, fun _ => h4⟩
theorem item_num (p : Int × Int) : (itD p).num = true := rfl
theorem items_num (l : List (Int × Int)) : nums (l.map itD) = true := by
  induction l with
  | nil => rfl
  | cons p l ih =>
    show ((itD p).num && nums (l.map itD)) = true
    rw [ih]
    rfl
theorem sh_num : ∀ t : SH, nums t.l = true
  | .nil => rfl
  | .node r k row a b => by
    show (true && (true && (nums (row.map itD) && (nums a.l && (nums b.l && true))))) = true
    rw [items_num, sh_num a, sh_num b]
    rfl
theorem items_dep (l : List (Int × Int)) : deps (l.map itD) ≤ 1 := by
  induction l with
  | nil => exact Nat.zero_le _
  | cons p l ih =>
    show max (itD p).dep (deps (l.map itD)) ≤ 1
    exact Nat.max_le.mpr ⟨Nat.le_refl _, ih⟩
theorem sh_dep : ∀ t : SH, deps t.l ≤ t.nodes + 2
  | .nil => Nat.zero_le _
  | .node r k row a b => by
    have h1 := items_dep row
    have h2 := sh_dep a
    have h3 := sh_dep b
    show max 0 (max 0 (max (deps (row.map itD) + 1) (max (deps a.l + 1) (max (deps b.l + 1) 0)))) ≤ a.nodes + b.nodes + 1 + 2
    omega
theorem sh_empty (t : SH) : t.l.isEmpty = t.isNil := by cases t <;> rfl
/-- ranks within bounds -/
def SH.rb : SH → Prop
  | .nil => True
  | .node r _ _ a b => 0 ≤ r ∧ r ≤ 500 ∧ a.rb ∧ b.rb
/-- how many items -/
def SH.cnt : SH → Nat
  | .nil => 0
  | .node _ _ row a b => row.length + a.cnt + b.cnt
theorem firstS_cases (a b : SH) : firstS a b = (a, b) ∨ firstS a b = (b, a) := by
  unfold firstS
  split
  · exact .inr rfl
  · exact .inl rfl
theorem emptied_rb {t : SH} (h : t.rb) : t.emptied.rb := by cases t <;> exact h
theorem fill_rb {sl : Int} : ∀ (n : Nat) {t : SH}, t.rb → (fillF sl n t).rb
  | 0, _, h => h
  | n + 1, t, h => by
    unfold fillF
    split
    · rename_i hg
      cases t with
      | nil => cases hg
      | node r k row a b =>
        obtain ⟨h1, h2, h3, h4⟩ := h
        have hf : (firstS a b).1.rb ∧ (firstS a b).2.rb := by
          rcases firstS_cases a b with e | e <;> rw [e] <;> first | exact ⟨h3, h4⟩ | exact ⟨h4, h3⟩
        refine fill_rb n ⟨h1, h2, ?_, hf.2⟩
        show (if (firstS a b).1.leaf = true then SH.nil else fillF sl n (firstS a b).1.emptied).rb
        split
        · trivial
        · exact fill_rb n (emptied_rb hf.1)
    · exact h
theorem leaf_cnt {t : SH} (h : t.leaf = true) : t.cnt = t.row.length := by
  cases t with
  | nil => rfl
  | node r k row a b => cases a <;> cases b <;> first | (cases h; done) | rfl
theorem emptied_cnt (t : SH) : t.emptied.cnt + t.row.length = t.cnt := by
  cases t with
  | nil => rfl
  | node r k row a b =>
    show ([] : List (Int × Int)).length + a.cnt + b.cnt + row.length = row.length + a.cnt + b.cnt
    simp
    omega
theorem fill_cnt {sl : Int} : ∀ (n : Nat) (t : SH), (fillF sl n t).cnt = t.cnt
  | 0, _ => rfl
  | n + 1, t => by
    unfold fillF
    split
    · rename_i hg
      cases t with
      | nil => cases hg
      | node r k row a b =>
        rw [fill_cnt n]
        have hf : (firstS a b).1.cnt + (firstS a b).2.cnt = a.cnt + b.cnt := by
          rcases firstS_cases a b with e | e <;> rw [e] <;> simp <;> omega
        have hb : (if (firstS a b).1.leaf = true then SH.nil else fillF sl n (firstS a b).1.emptied).cnt + (firstS a b).1.row.length = (firstS a b).1.cnt := by
          split
          · rename_i hl
            rw [leaf_cnt hl]
            show 0 + _ = _
            omega
          · rw [fill_cnt n]
            exact emptied_cnt _
        show (row ++ (firstS a b).1.row).length + (if (firstS a b).1.leaf = true then SH.nil else fillF sl n (firstS a b).1.emptied).cnt + (firstS a b).2.cnt = row.length + a.cnt + b.cnt
        rw [List.length_append]
        omega
    · rfl
theorem fill_stop {sl : Int} {t : SH} (h : goesOn sl t = false) (n : Nat) : fillF sl n t = t := by
  cases n with
  | zero => rfl
  | succ n =>
    unfold fillF
    rw [h]
    rfl
theorem fill_go {sl r k : Int} {row : List (Int × Int)} {a b A B : SH} (h : goesOn sl (.node r k row a b) = true) (e : firstS a b = (A, B)) (n : Nat) :
    fillF sl (n + 1) (.node r k row a b) = fillF sl n (.node r A.key (row ++ A.row) (if A.leaf = true then .nil else fillF sl n A.emptied) B) := by
  show (if goesOn sl (.node r k row a b) = true then _ else _) = _
  rw [h, if_pos rfl]
  show fillF sl n (.node r (firstS a b).1.key (row ++ (firstS a b).1.row) (if (firstS a b).1.leaf = true then SH.nil else fillF sl n (firstS a b).1.emptied) (firstS a b).2) = _
  rw [e]
theorem ne_nil {S : Store} (t : SH) {K : Bool → Prop} (k : K (!t.isNil)) : cmpB .NotEq t.d (.tup []) S K := by
  show cEq t.d (.tup []) S fun b => K (!b)
  refine eq_nil_num (K := fun b => K (!b)) (sh_num t) ?_
  rw [sh_empty]
  exact k
theorem is_nil {S : Store} (t : SH) {K : Bool → Prop} (k : K t.isNil) : cmpB .Eq t.d (.tup []) S K := by
  show cEq t.d (.tup []) S K
  refine eq_nil_num (sh_num t) ?_
  rw [sh_empty]
  exact k
theorem firstS_cnt (a b : SH) : (firstS a b).1.cnt + (firstS a b).2.cnt = a.cnt + b.cnt := by
  rcases firstS_cases a b with e | e <;> rw [e] <;> simp <;> omega
theorem firstS_rb {a b : SH} (ha : a.rb) (hb : b.rb) : (firstS a b).1.rb ∧ (firstS a b).2.rb := by
  rcases firstS_cases a b with e | e <;> rw [e] <;> first | exact ⟨ha, hb⟩ | exact ⟨hb, ha⟩
end Mn

/-! Order of ints, of items. -/
namespace Mn
open PySem
theorem pysF_map {α : Type} (f : α → D) (l : List α) : pys (l.map f) = l.map fun a => (f a).py := by
  induction l with
  | nil => rfl
  | cons a l ih =>
    show (f a).py :: pys (l.map f) = _
    rw [ih]
    rfl
theorem purs_map {α : Type} (f : α → D) (l : List α) (h : ∀ a ∈ l, (f a).pur = true) : purs (l.map f) = true := by
  induction l with
  | nil => rfl
  | cons a l ih =>
    show ((f a).pur && purs (l.map f)) = true
    rw [h a List.mem_cons_self, ih fun b hb => h b (List.mem_cons_of_mem _ hb)]
    rfl
theorem ord_ints (l : List Int) : OrdOk (l.map D.int) := by
  refine ⟨purs_map _ _ fun _ _ => rfl, ?_, .inr ?_, ?_⟩
  · rw [pysF_map]
    intro d hd d' hd'
    obtain ⟨a, _, rfl⟩ := List.mem_map.mp hd
    obtain ⟨b, _, rfl⟩ := List.mem_map.mp hd'
    simp [D.py, PySem.W.alike]
  · rw [pysF_map]
    intro d hd
    obtain ⟨a, _, rfl⟩ := List.mem_map.mp hd
    exact ⟨fun z => (by cases z), fun _ z => (by cases z)⟩
  · rw [pysF_map]
    intro d hd
    obtain ⟨a, _, rfl⟩ := List.mem_map.mp hd
    exact Nat.zero_le _
theorem ord_items (l : List (Int × Int)) : OrdOk (l.map itD) := by
  refine ⟨purs_map _ _ fun _ _ => rfl, ?_, .inl ?_, ?_⟩
  · rw [pysF_map]
    intro d hd d' hd'
    obtain ⟨a, _, rfl⟩ := List.mem_map.mp hd
    obtain ⟨b, _, rfl⟩ := List.mem_map.mp hd'
    simp [D.py, itD, pys, PySem.W.alike, PySem.W.alikeAll]
  · rw [pysF_map]
    intro d hd
    obtain ⟨a, _, rfl⟩ := List.mem_map.mp hd
    exact ⟨_, _, rfl⟩
  · rw [pysF_map]
    intro d hd
    obtain ⟨a, _, rfl⟩ := List.mem_map.mp hd
    show (PyData.tuple [.int a.1, .int a.2]).depth ≤ 60
    have : (PyData.tuple [.int a.1, .int a.2]).depth = 1 := rfl
    omega
/-- the order of items -/
def itLt (p q : Int × Int) : Bool := decide (p.1 < q.1 ∨ (p.1 = q.1 ∧ p.2 < q.2))
def itLe (p q : Int × Int) : Bool := decide (p.1 < q.1 ∨ (p.1 = q.1 ∧ p.2 ≤ q.2))
theorem dlt_int (a b : Int) : PySem.W.dataLt (D.int a).py (D.int b).py = decide (a < b) := PySem.W.dataLt_int a b
theorem dlt_it (p q : Int × Int) : PySem.W.dataLt (itD p).py (itD q).py = itLt p q := PySem.W.dataLt_ii p.1 p.2 q.1 q.2
theorem clt_it (p q : Int × Int) {K : Bool → Prop} (k : K (itLt p q)) : cLt (itD p) (itD q) K := by
  show K (HT.lexLt [p.1, p.2] [q.1, q.2])
  have e : HT.lexLt [p.1, p.2] [q.1, q.2] = itLt p q := by
    unfold itLt
    simp only [HT.lexLt]
    by_cases h1 : p.1 < q.1 <;> by_cases h2 : p.1 = q.1 <;> by_cases h3 : p.2 < q.2 <;> by_cases h4 : p.2 = q.2 <;> simp [h1, h2, h3, h4] <;> omega
  rw [e]
  exact k
def maxI (a : Int) (l : List Int) : Int := l.foldl (fun x y => if x < y then y else x) a
def minI (a : Int) (l : List Int) : Int := l.foldl (fun x y => if y < x then y else x) a
theorem maxL_int (l : List Int) : ∀ a : Int, maxL (.int a) (l.map D.int) = .int (maxI a l) := by
  induction l with
  | nil => exact fun _ => rfl
  | cons b l ih =>
    intro a
    show maxL (if PySem.W.dataLt (D.int a).py (D.int b).py = true then .int b else .int a) (l.map D.int) = .int (maxI (if a < b then b else a) l)
    rw [dlt_int, ← ih]
    by_cases h : a < b <;> simp [h]
theorem minL_int (l : List Int) : ∀ a : Int, minL (.int a) (l.map D.int) = .int (minI a l) := by
  induction l with
  | nil => exact fun _ => rfl
  | cons b l ih =>
    intro a
    show minL (if PySem.W.dataLt (D.int b).py (D.int a).py = true then .int b else .int a) (l.map D.int) = .int (minI (if b < a then b else a) l)
    rw [dlt_int, ← ih]
    by_cases h : b < a <;> simp [h]
def minIt (a : Int × Int) (l : List (Int × Int)) : Int × Int := l.foldl (fun x y => if itLt y x = true then y else x) a
theorem minL_it (l : List (Int × Int)) : ∀ a, minL (itD a) (l.map itD) = itD (minIt a l) := by
  induction l with
  | nil => exact fun _ => rfl
  | cons b l ih =>
    intro a
    show minL (if PySem.W.dataLt (itD b).py (itD a).py = true then itD b else itD a) (l.map itD) = itD (minIt (if itLt b a = true then b else a) l)
    rw [dlt_it, ← ih]
    by_cases h : itLt b a = true <;> simp [h]
theorem maxI_spec (l : List Int) : ∀ a : Int, (maxI a l = a ∨ maxI a l ∈ l) ∧ a ≤ maxI a l ∧ ∀ x ∈ l, x ≤ maxI a l := by
  induction l with
  | nil => exact fun a => ⟨.inl rfl, Int.le_refl _, fun x hx => (nomatch hx)⟩
  | cons b l ih =>
    intro a
    obtain ⟨h1, h2, h3⟩ := ih (if a < b then b else a)
    show (maxI (if a < b then b else a) l = a ∨ _) ∧ _
    have hm : maxI a (b :: l) = maxI (if a < b then b else a) l := rfl
    rw [hm]
    refine ⟨?_, ?_, ?_⟩
    · rcases h1 with h | h
      · rw [h]
        split
        · exact .inr (by simp)
        · exact .inl rfl
      · exact .inr (List.mem_cons_of_mem _ h)
    · split at h2 <;> rename_i h <;> simp [h] <;> omega
    · intro x hx
      rcases List.mem_cons.mp hx with rfl | hx
      · split at h2 <;> rename_i h <;> simp [h] <;> omega
      · exact h3 x hx
theorem minI_spec (l : List Int) : ∀ a : Int, (minI a l = a ∨ minI a l ∈ l) ∧ minI a l ≤ a ∧ ∀ x ∈ l, minI a l ≤ x := by
  induction l with
  | nil => exact fun a => ⟨.inl rfl, Int.le_refl _, fun x hx => (nomatch hx)⟩
  | cons b l ih =>
    intro a
    obtain ⟨h1, h2, h3⟩ := ih (if b < a then b else a)
    have hm : minI a (b :: l) = minI (if b < a then b else a) l := rfl
    rw [hm]
    refine ⟨?_, ?_, ?_⟩
    · rcases h1 with h | h
      · rw [h]
        split
        · exact .inr (by simp)
        · exact .inl rfl
      · exact .inr (List.mem_cons_of_mem _ h)
    · split at h2 <;> rename_i h <;> simp [h] <;> omega
    · intro x hx
      rcases List.mem_cons.mp hx with rfl | hx
      · split at h2 <;> rename_i h <;> simp [h] <;> omega
      · exact h3 x hx
/-- sorting of a list of ints, of items -/
theorem sortD_map {α : Type} (f : α → D) (le : α → α → Bool) (h : ∀ a b, PySem.W.dataLe false D.py (f a) (f b) = le a b) (l : List α) : sortD (l.map f) = (l.mergeSort le).map f := by
  unfold sortD
  rw [List.map_mergeSort]
  intro a _ b _
  rw [h]
def sortI (l : List Int) : List Int := l.mergeSort fun a b => decide (a ≤ b)
def sortIt (l : List (Int × Int)) : List (Int × Int) := l.mergeSort itLe
theorem sortD_int (l : List Int) : sortD (l.map D.int) = (sortI l).map D.int := by
  refine sortD_map _ _ (fun a b => ?_) l
  show (!PySem.W.dataLt (D.int b).py (D.int a).py) = _
  rw [dlt_int]
  by_cases h : b < a <;> simp [h] <;> omega
theorem sortD_it (l : List (Int × Int)) : sortD (l.map itD) = (sortIt l).map itD := by
  refine sortD_map _ _ (fun a b => ?_) l
  show (!PySem.W.dataLt (itD b).py (itD a).py) = _
  rw [dlt_it]
  unfold itLt itLe
  by_cases h : b.1 < a.1 ∨ (b.1 = a.1 ∧ b.2 < a.2)
  · have h' : ¬ (a.1 < b.1 ∨ (a.1 = b.1 ∧ a.2 ≤ b.2)) := by omega
    simp [h, h']
  · have h' : a.1 < b.1 ∨ (a.1 = b.1 ∧ a.2 ≤ b.2) := by omega
    simp [h, h']
end Mn

/-! Running the small language: rules for its parts. -/
namespace Mn
open PySem
theorem cs_cons {F : Sem} {c : C} {cs : Cs} {K : Ends} {ρ : Env} {S : Store} (h : wpC F c { K with nx := fun ρ1 S1 => wpCs F cs K ρ1 S1 } ρ S) : wpCs F (.cons c cs) K ρ S := h
theorem cs_nil {F : Sem} {K : Ends} {ρ : Env} {S : Store} (h : K.nx ρ S) : wpCs F .nil K ρ S := h
/-- a def is entered -/
theorem enter {P : Prog} {n f : Nat} {fn : Fn} {ds : List D} {S : Store} {Q : DK} {X : XK} (e : P f = some fn) (hl : ds.length = fn.np) (h : wpCs (callN P n) fn.body (rtEnds Q X) (startE fn ds) S) : callN P (n + 1) f ds S Q X := by
  show (match P f with | some fn => ds.length = fn.np ∧ wpCs (callN P n) fn.body (rtEnds Q X) (startE fn ds) S | none => False)
  rw [e]
  exact ⟨hl, h⟩
/-! what stays folded while the rest is run -/
def lcB (F : Sem) (t : Tg) (G : Store → Prop) (c e : E) (Q : Store → Prop) (n : Nat) (ρ : Env) (l acc : List D) (S : Store) : Prop := wpLc t G (fun ρ S Q => wpE F c ρ S Q noX) (fun ρ S Q => wpE F e ρ S Q noX) Q n ρ l acc S
def dcB (F : Sem) (t : Tg) (G : Store → Prop) (c e : E) (Q : Store → Prop) (n : Nat) (ρ : Env) (l : List D) (acc : List (Key × D)) (S : Store) : Prop := wpDc t G (fun ρ S Q => wpE F c ρ S Q noX) (fun ρ S Q => wpE F e ρ S Q noX) Q n ρ l acc S
def whB (F : Sem) (c : E) (b : Cs) (K : Ends) (ρ : Env) (S : Store) : Prop := ∃ n, wpWh (fun ρ S Q => wpE F c ρ S Q K.xc) (wpCs F b) K n ρ S
def forB (F : Sem) (t : Tg) (G : Store → Prop) (b : Cs) (K : Ends) (l : List D) (ρ : Env) (S : Store) : Prop := wpFor t G (wpCs F b) K l ρ S
def lenOk (ds : List D) : Prop := ds.length ≤ lim
section
variable (F : Sem) (ρ : Env) (S : Store) (Q : DK) (X : XK)
theorem e_no : wpE F .no ρ S Q X = Q .non S := rfl
theorem e_v (i : Nat) : wpE F (.v i) ρ S Q X = (match ρ[i]? with | some (some d) => Q d S | _ => False) := rfl
theorem e_cst (d : D) : wpE F (.cst d) ρ S Q X = Q d S := rfl
theorem e_and (a b : E) : wpE F (.and a b) ρ S Q X = wpE F a ρ S (fun x S1 => match x with | .bl true => wpE F b ρ S1 Q X | .bl false => Q (.bl false) S1 | _ => False) X := rfl
theorem e_or (a b : E) : wpE F (.or a b) ρ S Q X = wpE F a ρ S (fun x S1 => match x with | .bl true => Q (.bl true) S1 | .bl false => wpE F b ρ S1 Q X | _ => False) X := rfl
theorem e_not (a : E) : wpE F (.not a) ρ S Q X = wpE F a ρ S (fun x S1 => match x with | .bl b => Q (.bl (!b)) S1 | _ => False) X := rfl
theorem e_ite (c a b : E) : wpE F (.ite c a b) ρ S Q X = wpE F c ρ S (fun x S1 => match x with | .bl true => wpE F a ρ S1 Q X | .bl false => wpE F b ρ S1 Q X | _ => False) X := rfl
theorem e_bin (op : Operator) (a b : E) : wpE F (.bin op a b) ρ S Q X = wpE F a ρ S (fun x S1 => wpE F b ρ S1 (fun y S2 => bop op x y S2 Q) X) X := rfl
theorem e_neg (a : E) : wpE F (.neg a) ρ S Q X = wpE F a ρ S (fun x S1 => match x with | .int i => Q (.int (-i)) S1 | _ => False) X := rfl
theorem e_cmp (op : CmpOp) (a b : E) : wpE F (.cmp op a b) ρ S Q X = wpE F a ρ S (fun x S1 => wpE F b ρ S1 (fun y S2 => cmpB op x y S2 fun k => Q (.bl k) S2) X) X := rfl
theorem e_chn (op op2 : CmpOp) (a b c : E) : wpE F (.chn op op2 a b c) ρ S Q X = wpE F a ρ S (fun x S1 => wpE F b ρ S1 (fun y S2 => cmpB op x y S2 fun k => match k with
      | true => wpE F c ρ S2 (fun z S3 => cmpB op2 y z S3 fun k2 => Q (.bl k2) S3) X
      | false => Q (.bl false) S2) X) X := rfl
theorem e_ix (a i : E) : wpE F (.ix a i) ρ S Q X = wpE F a ρ S (fun x S1 => wpE F i ρ S1 (fun y S2 => ixD x y S2 Q) X) X := rfl
theorem e_sl (a lo hi : E) : wpE F (.sl a lo hi) ρ S Q X = wpE F a ρ S (fun x S1 => wpE F lo ρ S1 (fun y S2 => match optP lo y with
      | some l => wpE F hi ρ S2 (fun z S3 => match optP hi z with
        | some h => slD x l h S3 Q
        | none => False) X
      | none => False) X) X := rfl
/-- a list the other way round -/
def revD (x : D) (S : Store) (Q : DK) : Prop := match lq? S x with | some l => Q (.ref S.length) (S ++ [.lst l.reverse]) | none => False
theorem e_rev (a : E) : wpE F (.rev a) ρ S Q X = wpE F a ρ S (fun x S1 => revD x S1 Q) X := rfl
theorem e_dct (ks vs : Es) : wpE F (.dct ks vs) ρ S Q X = wpEs F ks ρ S (fun xs S1 => wpEs F vs ρ S1 (fun ys S2 => match dLit xs ys with
      | some kvs => Q (.ref S2.length) (S2 ++ [.dct kvs])
      | none => False) X) X := rfl
theorem e_bm (m : Bm) (o : E) (es : Es) : wpE F (.bm m o es) ρ S Q X = wpE F o ρ S (fun x S1 => recv m x S1 = true ∧ wpEs F es ρ S1 (fun ds S2 => bm m x ds S2 Q) X) X := rfl
/-- an attribute -/
def attrD (c : Nat) (f : Str) (x : D) (S : Store) (Q : DK) : Prop := match inst? S x with
      | some (c', fs) => (match fs.lookup f with | some d => c' = c ∧ Q d S | none => False)
      | none => False
theorem e_attr (c : Nat) (o : E) (f : Str) : wpE F (.attr c o f) ρ S Q X = wpE F o ρ S (fun x S1 => attrD c f x S1 Q) X := rfl
/-- a method is looked up -/
def methD (c : Nat) (m : Str) (x : D) (S : Store) (q : Prop) : Prop := match inst? S x with
      | some (c', fs) => c' = c ∧ fs.lookup m = none ∧ q
      | none => False
theorem e_meth (c : Nat) (m : Str) (f : Nat) (o : E) (es : Es) : wpE F (.meth c m f o es) ρ S Q X = wpE F o ρ S (fun x S1 => methD c m x S1 (wpEs F es ρ S1 (fun ds S2 => F f (x :: ds) S2 Q X) X)) X := rfl
theorem e_make (c f : Nat) (es : Es) : wpE F (.make c f es) ρ S Q X = wpEs F es ρ S (fun ds S1 => F f (.ref S1.length :: ds) (S1 ++ [.ins c []]) (fun d S2 => d = .non ∧ Q (.ref S1.length) S2) X) X := rfl
theorem e_lc (own : List Nat) (t : Tg) (it : It) (c e : E) : wpE F (.lc own t it c e) ρ S Q X = wpIt F it ρ S (fun l G S1 => lcB F t G c e (fun S2 => Q (.ref S1.length) S2) S1.length (wipeE ρ own) l [] (S1 ++ [.lst []])) X := rfl
theorem e_dc (own : List Nat) (t : Tg) (it : It) (c e : E) : wpE F (.dc own t it c e) ρ S Q X = wpIt F it ρ S (fun l G S1 => dcB F t G c e (fun S2 => Q (.ref S1.length) S2) S1.length (wipeE ρ own) l [] (S1 ++ [.dct []])) X := rfl
theorem e_tup (es : Es) : wpE F (.tup es) ρ S Q X = wpEs F es ρ S (fun ds S1 => lenOk ds ∧ Q (.tup ds) S1) X := rfl
theorem e_lst (es : Es) : wpE F (.lst es) ρ S Q X = wpEs F es ρ S (fun ds S1 => lenOk ds ∧ Q (.ref S1.length) (S1 ++ [.lst ds])) X := rfl
theorem e_call (f : Nat) (es : Es) : wpE F (.call f es) ρ S Q X = wpEs F es ρ S (fun ds S1 => F f ds S1 Q X) X := rfl
theorem e_calld (f : Nat) (es : Es) (d : D) : wpE F (.calld f es d) ρ S Q X = wpEs F es ρ S (fun ds S1 => F f (ds ++ [d]) S1 Q X) X := rfl
theorem e_callk (f : Nat) (es : Es) (k : E) : wpE F (.callk f es k) ρ S Q X = wpEs F es ρ S (fun ds S1 => wpE F k ρ S1 (fun z S2 => F f (ds ++ [z]) S2 Q X) X) X := rfl
theorem e_blt (b : Bt) (es : Es) : wpE F (.blt b es) ρ S Q X = wpEs F es ρ S (fun ds S1 => bt b ds S1 Q) X := rfl
theorem es_n (Q : List D → Store → Prop) : wpEs F .nil ρ S Q X = Q [] S := rfl
theorem es_c (e : E) (es : Es) (Q : List D → Store → Prop) : wpEs F (.cons e es) ρ S Q X = wpE F e ρ S (fun x S1 => wpEs F es ρ S1 (fun xs S2 => Q (x :: xs) S2) X) X := rfl
variable (R : List D → (Store → Prop) → Store → Prop)
theorem i_seq (e : E) : wpIt F (.seq e) ρ S R X = wpE F e ρ S (fun x S1 => itSeq x S1 fun l G => R l G S1) X := rfl
theorem i_enum (e : E) : wpIt F (.enum e) ρ S R X = wpE F e ρ S (fun x S1 => itSeq x S1 fun l G => R (enumL l) G S1) X := rfl
def rngB (f : Int → Int → List D) (x y : D) (S : Store) (R : List D → (Store → Prop) → Store → Prop) : Prop := match x, y with
    | .int i, .int j => -1000000 ≤ i ∧ i ≤ 1000000 ∧ -1000000 ≤ j ∧ j ≤ 1000000 ∧ R (f i j) (fun _ => True) S
    | _, _ => False
theorem rng_go {f : Int → Int → List D} {i j : Int} {S : Store} {R : List D → (Store → Prop) → Store → Prop} (h1 : -1000000 ≤ i) (h2 : i ≤ 1000000) (h3 : -1000000 ≤ j) (h4 : j ≤ 1000000) (q : R (f i j) (fun _ => True) S) : rngB f (.int i) (.int j) S R := ⟨h1, h2, h3, h4, q⟩
theorem i_rng (a b : E) : wpIt F (.rng a b) ρ S R X = wpE F a ρ S (fun x S1 => wpE F b ρ S1 (fun y S2 => rngB rngL x y S2 R) X) X := rfl
theorem i_rngd (a b : E) : wpIt F (.rngd a b) ρ S R X = wpE F a ρ S (fun x S1 => wpE F b ρ S1 (fun y S2 => rngB rngD x y S2 R) X) X := rfl
theorem i_rng2 (a b : E) : wpIt F (.rng2 a b) ρ S R X = wpE F a ρ S (fun x S1 => wpE F b ρ S1 (fun y S2 => rngB rng2L x y S2 R) X) X := rfl
def keysB (x : D) (S : Store) (R : List D → (Store → Prop) → Store → Prop) : Prop := match x with
    | .ref n => (match S[n]? with
      | some (.dct kvs) => R (kvs.map fun kv => keyD kv.1) (fun S => S[n]? = some (.fdct kvs)) (S.set n (.fdct kvs))
      | _ => False)
    | _ => False
theorem keys_go {n : Nat} {kvs : List (Key × D)} {S : Store} {R : List D → (Store → Prop) → Store → Prop} (h : S[n]? = some (.dct kvs)) (q : R (kvs.map fun kv => keyD kv.1) (fun S => S[n]? = some (.fdct kvs)) (S.set n (.fdct kvs))) : keysB (.ref n) S R := by
  unfold keysB
  dsimp only
  rw [h]
  exact q
theorem i_keys (e : E) : wpIt F (.keys e) ρ S R X = wpE F e ρ S (fun x S1 => keysB x S1 R) X := rfl
variable (K : Ends)
theorem c_set (i : Nat) (e : E) : wpC F (.set i e) K ρ S = wpE F e ρ S (fun x S1 => K.nx (ρ.set i (some x)) S1) K.xc := rfl
theorem c_asg (t : Tg) (e : E) : wpC F (.asg t e) K ρ S = wpE F e ρ S (fun x S1 => match t.bind x ρ with | some ρ1 => K.nx ρ1 S1 | none => False) K.xc := rfl
theorem c_par (i j : Nat) (a b : E) : wpC F (.par i j a b) K ρ S = wpE F a ρ S (fun x S1 => wpE F b ρ S1 (fun y S2 => K.nx ((ρ.set i (some x)).set j (some y)) S2) K.xc) K.xc := rfl
theorem c_star (i j : Nat) (e : E) : wpC F (.star i j e) K ρ S = wpE F e ρ S (fun x S1 => match x with
    | .tup (d :: r) => K.nx ((ρ.set i (some d)).set j (some (.ref S1.length))) (S1 ++ [.lst r])
    | _ => False) K.xc := rfl
/-- a list of two is unpacked -/
def unpD (x : D) (S : Store) (q : D → D → Prop) : Prop := match lq? S x with
    | some [a, b] => q a b
    | _ => False
theorem unp_go {S : Store} {n : Nat} {a b : D} {q : D → D → Prop} (h : S[n]? = some (.lst [a, b])) (hq : q a b) : unpD (.ref n) S q := by
  unfold unpD
  rw [show lq? S (.ref n) = some [a, b] from lst_of h]
  exact hq
theorem c_unp (i j : Nat) (e : E) : wpC F (.unp i j e) K ρ S = wpE F e ρ S (fun x S1 => unpD x S1 fun a b => K.nx ((ρ.set i (some a)).set j (some b)) S1) K.xc := rfl
theorem c_setA (c : Nat) (o : E) (f : Str) (e : E) : wpC F (.setA c o f e) K ρ S = wpE F e ρ S (fun x S1 => wpE F o ρ S1 (fun y S2 => setAt c f y x S2 fun S3 => K.nx ρ S3) K.xc) K.xc := rfl
theorem c_aug (i : Nat) (op : Operator) (e : E) : wpC F (.aug i op e) K ρ S = (match ρ[i]? with
    | some (some x) => wpE F e ρ S (fun y S1 => iop op x y S1 fun z S2 => K.nx (ρ.set i (some z)) S2) K.xc
    | _ => False) := rfl
theorem c_augA (c : Nat) (o : E) (f : Str) (op : Operator) (e : E) : wpC F (.augA c o f op e) K ρ S = wpE F o ρ S (fun x S1 => attrD c f x S1 fun d S1 => wpE F e ρ S1 (fun y S2 => iop op d y S2 fun z S3 => setAt c f x z S3 fun S4 => K.nx ρ S4) K.xc) K.xc := rfl
theorem c_augX (o i : E) (op : Operator) (e : E) : wpC F (.augX o i op e) K ρ S = wpE F o ρ S (fun x S1 => wpE F i ρ S1 (fun y S2 => ixD x y S2 fun z S3 => wpE F e ρ S3 (fun w S4 => iop op z w S4 fun r S5 => setIx x y r S5 fun S6 => K.nx ρ S6) K.xc) K.xc) K.xc := rfl
theorem c_pass : wpC F .pass K ρ S = K.nx ρ S := rfl
theorem c_raise (c : Nat) : wpC F (.raise c) K ρ S = K.xc c S := rfl
theorem c_setIx (o i e : E) : wpC F (.setIx o i e) K ρ S = wpE F e ρ S (fun x S1 => wpE F o ρ S1 (fun y S2 => wpE F i ρ S2 (fun z S3 => setIx y z x S3 fun S4 => K.nx ρ S4) K.xc) K.xc) K.xc := rfl
theorem c_ret (e : E) : wpC F (.ret e) K ρ S = wpE F e ρ S K.rt K.xc := rfl
theorem c_ex (e : E) : wpC F (.ex e) K ρ S = wpE F e ρ S (fun _ S1 => K.nx ρ S1) K.xc := rfl
theorem c_cond (c : E) (a b : Cs) : wpC F (.cond c a b) K ρ S = wpE F c ρ S (fun x S1 => match x with | .bl true => wpCs F a K ρ S1 | .bl false => wpCs F b K ρ S1 | _ => False) K.xc := rfl
theorem c_whl (c : E) (b : Cs) : wpC F (.whl c b) K ρ S = whB F c b K ρ S := rfl
theorem c_for (t : Tg) (it : It) (b : Cs) : wpC F (.for_ t it b) K ρ S = wpIt F it ρ S (fun l G S1 => forB F t G b K l ρ S1) K.xc := rfl
theorem cs_n : wpCs F .nil K ρ S = K.nx ρ S := rfl
end
/-! loops, comprehensions -/
theorem lcB_map {P : Prog} {m : Nat} {t : Tg} {G : Store → Prop} {c e : E} {Q : Store → Prop} {ρ : Env} {S1 : Store} (p : D → Bool) (f : D → D) {l : List D} {acc : List D} (hG : ∀ acc, G (S1 ++ [.lst acc])) (hl : acc.length + l.length ≤ 1000000)
    (hs : ∀ d ∈ l, ∃ ρ1, t.bind d ρ = some ρ1 ∧ ∀ acc, (∀ K : DK, K (.bl (p d)) (S1 ++ [.lst acc]) → wpE (callN P m) c ρ1 (S1 ++ [.lst acc]) K noX) ∧ (p d = true → ∀ K : DK, K (f d) (S1 ++ [.lst acc]) → wpE (callN P m) e ρ1 (S1 ++ [.lst acc]) K noX))
    (q : Q (S1 ++ [.lst (acc ++ (l.filter p).map f)])) : lcB (callN P m) t G c e Q S1.length ρ l acc (S1 ++ [.lst acc]) := lc_map (tmono _) (tmono _) p f l acc hG hl hs q
theorem lcB_at {P : Prog} {m : Nat} {t : Tg} {G : Store → Prop} {c e : E} {Q : Store → Prop} {n : Nat} {ρ : Env} (l : List D) (I : Nat → List D → Store → Prop) (hG : ∀ i acc S, I i acc S → G S) (hend : ∀ acc S, I l.length acc S → Q S)
    (hs : ∀ i d, l[i]? = some d → ∀ acc S, I i acc S → ∃ ρ1, t.bind d ρ = some ρ1 ∧ wpE (callN P m) c ρ1 S (fun x S1 => match x with
      | .bl true => wpE (callN P m) e ρ1 S1 (fun y S2 => S2[n]? = some (.lst acc) ∧ acc.length < 1000000 ∧ I (i + 1) (acc ++ [y]) (S2.set n (.lst (acc ++ [y])))) noX
      | .bl false => I (i + 1) acc S1
      | _ => False) noX) {acc : List D} {S : Store} (h : I 0 acc S) : lcB (callN P m) t G c e Q n ρ l acc S := lc_at (tmono _) (tmono _) l I hG hend hs h
theorem dcB_map {P : Prog} {m : Nat} {t : Tg} {G : Store → Prop} {c e : E} {Q : Store → Prop} {ρ : Env} {S1 : Store} (k : D → Key) (f : D → D) {l : List D} {acc : List (Key × D)} (hG : ∀ acc, G (S1 ++ [.dct acc])) (hl : acc.length + l.length ≤ 1000000)
    (hs : ∀ d ∈ l, ∃ ρ1, t.bind d ρ = some ρ1 ∧ ∀ acc, (∀ K : DK, K (keyD (k d)) (S1 ++ [.dct acc]) → wpE (callN P m) c ρ1 (S1 ++ [.dct acc]) K noX) ∧ (∀ K : DK, K (f d) (S1 ++ [.dct acc]) → wpE (callN P m) e ρ1 (S1 ++ [.dct acc]) K noX))
    (q : Q (S1 ++ [.dct (l.foldl (fun a d => dPut a (k d) (f d)) acc)])) : dcB (callN P m) t G c e Q S1.length ρ l acc (S1 ++ [.dct acc]) := dc_map (tmono _) (tmono _) k f l acc hG hl hs q
theorem whB_at {P : Prog} {m : Nat} {c : E} {b : Cs} {K : Ends} (I : Nat → Env → Store → Prop)
    (hs : ∀ n ρ S, I n ρ S → ∀ N : Env → Store → Prop, (∀ m ρ S, m < n → I m ρ S → N ρ S) → wpE (callN P m) c ρ S (fun x S1 => match x with
      | .bl true => wpCs (callN P m) b { K with nx := N, ct := N, bk := K.nx } ρ S1
      | .bl false => K.nx ρ S1
      | _ => False) K.xc) (n : Nat) {ρ : Env} {S : Store} (h : I n ρ S) : whB (callN P m) c b K ρ S :=
  wh_at (tmono _) (bmono _) I (fun n ρ S h => hs n ρ S h _ fun m ρ S h1 h2 => ⟨m, h1, h2⟩) n h
theorem forB_at {P : Prog} {m : Nat} {t : Tg} {G : Store → Prop} {b : Cs} {K : Ends} (l : List D) (I : Nat → Env → Store → Prop) (hG : ∀ i ρ S, I i ρ S → G S) (hend : ∀ ρ S, I l.length ρ S → K.nx ρ S)
    (hs : ∀ i d, l[i]? = some d → ∀ ρ S, I i ρ S → ∀ N : Env → Store → Prop, (∀ ρ S, I (i + 1) ρ S → N ρ S) → ∃ ρ1, t.bind d ρ = some ρ1 ∧ wpCs (callN P m) b { K with nx := N, ct := N, bk := K.nx } ρ1 S) {ρ : Env} {S : Store} (h : I 0 ρ S) : forB (callN P m) t G b K l ρ S :=
  for_at (bmono _) l I hG hend (fun i d hd ρ S h => hs i d hd ρ S h _ fun _ _ z => z) h
theorem rng_get {a b : Int} {i : Nat} {d : D} (h : (rngL a b)[i]? = some d) : d = .int (a + i) ∧ (i : Int) < b - a := by
  unfold rngL at h
  rw [List.getElem?_map] at h
  cases hr : (List.range (b - a).toNat)[i]? with
  | none => rw [hr] at h; cases h
  | some j =>
    rw [hr] at h
    have hlt : i < (b - a).toNat := by
      have := (List.getElem?_eq_some_iff.mp hr).1
      rwa [List.length_range] at this
    rw [List.getElem?_range hlt] at hr
    cases hr
    cases h
    exact ⟨rfl, by omega⟩
theorem nle0 {a b : Nat} (h : Nat.ble a b = true := by rfl) : a ≤ b := Nat.le_of_ble_eq_true h
theorem r_l0 : lenOk [] = True := eq_true (show _ ≤ _ from nle0)
theorem r_l1 (a0 : D) : lenOk [a0] = True := eq_true (show _ ≤ _ from nle0)
theorem r_l2 (a0 a1 : D) : lenOk [a0, a1] = True := eq_true (show _ ≤ _ from nle0)
theorem r_l3 (a0 a1 a2 : D) : lenOk [a0, a1, a2] = True := eq_true (show _ ≤ _ from nle0)
theorem r_l4 (a0 a1 a2 a3 : D) : lenOk [a0, a1, a2, a3] = True := eq_true (show _ ≤ _ from nle0)
theorem r_l5 (a0 a1 a2 a3 a4 : D) : lenOk [a0, a1, a2, a3, a4] = True := eq_true (show _ ≤ _ from nle0)
theorem r_l6 (a0 a1 a2 a3 a4 a5 : D) : lenOk [a0, a1, a2, a3, a4, a5] = True := eq_true (show _ ≤ _ from nle0)
theorem r_l7 (a0 a1 a2 a3 a4 a5 a6 : D) : lenOk [a0, a1, a2, a3, a4, a5, a6] = True := eq_true (show _ ≤ _ from nle0)
theorem r_l8 (a0 a1 a2 a3 a4 a5 a6 a7 : D) : lenOk [a0, a1, a2, a3, a4, a5, a6, a7] = True := eq_true (show _ ≤ _ from nle0)
theorem r_l9 (a0 a1 a2 a3 a4 a5 a6 a7 a8 : D) : lenOk [a0, a1, a2, a3, a4, a5, a6, a7, a8] = True := eq_true (show _ ≤ _ from nle0)
theorem r_l10 (a0 a1 a2 a3 a4 a5 a6 a7 a8 a9 : D) : lenOk [a0, a1, a2, a3, a4, a5, a6, a7, a8, a9] = True := eq_true (show _ ≤ _ from nle0)
theorem r_l11 (a0 a1 a2 a3 a4 a5 a6 a7 a8 a9 a10 : D) : lenOk [a0, a1, a2, a3, a4, a5, a6, a7, a8, a9, a10] = True := eq_true (show _ ≤ _ from nle0)
theorem r_l12 (a0 a1 a2 a3 a4 a5 a6 a7 a8 a9 a10 a11 : D) : lenOk [a0, a1, a2, a3, a4, a5, a6, a7, a8, a9, a10, a11] = True := eq_true (show _ ≤ _ from nle0)
theorem r_l13 (a0 a1 a2 a3 a4 a5 a6 a7 a8 a9 a10 a11 a12 : D) : lenOk [a0, a1, a2, a3, a4, a5, a6, a7, a8, a9, a10, a11, a12] = True := eq_true (show _ ≤ _ from nle0)
theorem r_l14 (a0 a1 a2 a3 a4 a5 a6 a7 a8 a9 a10 a11 a12 a13 : D) : lenOk [a0, a1, a2, a3, a4, a5, a6, a7, a8, a9, a10, a11, a12, a13] = True := eq_true (show _ ≤ _ from nle0)
theorem r_l15 (a0 a1 a2 a3 a4 a5 a6 a7 a8 a9 a10 a11 a12 a13 a14 : D) : lenOk [a0, a1, a2, a3, a4, a5, a6, a7, a8, a9, a10, a11, a12, a13, a14] = True := eq_true (show _ ≤ _ from nle0)
theorem r_l16 (a0 a1 a2 a3 a4 a5 a6 a7 a8 a9 a10 a11 a12 a13 a14 a15 : D) : lenOk [a0, a1, a2, a3, a4, a5, a6, a7, a8, a9, a10, a11, a12, a13, a14, a15] = True := eq_true (show _ ≤ _ from nle0)
theorem r_l17 (a0 a1 a2 a3 a4 a5 a6 a7 a8 a9 a10 a11 a12 a13 a14 a15 a16 : D) : lenOk [a0, a1, a2, a3, a4, a5, a6, a7, a8, a9, a10, a11, a12, a13, a14, a15, a16] = True := eq_true (show _ ≤ _ from nle0)
theorem r_l18 (a0 a1 a2 a3 a4 a5 a6 a7 a8 a9 a10 a11 a12 a13 a14 a15 a16 a17 : D) : lenOk [a0, a1, a2, a3, a4, a5, a6, a7, a8, a9, a10, a11, a12, a13, a14, a15, a16, a17] = True := eq_true (show _ ≤ _ from nle0)
theorem r_l19 (a0 a1 a2 a3 a4 a5 a6 a7 a8 a9 a10 a11 a12 a13 a14 a15 a16 a17 a18 : D) : lenOk [a0, a1, a2, a3, a4, a5, a6, a7, a8, a9, a10, a11, a12, a13, a14, a15, a16, a17, a18] = True := eq_true (show _ ≤ _ from nle0)
theorem r_l20 (a0 a1 a2 a3 a4 a5 a6 a7 a8 a9 a10 a11 a12 a13 a14 a15 a16 a17 a18 a19 : D) : lenOk [a0, a1, a2, a3, a4, a5, a6, a7, a8, a9, a10, a11, a12, a13, a14, a15, a16, a17, a18, a19] = True := eq_true (show _ ≤ _ from nle0)
theorem r_l21 (a0 a1 a2 a3 a4 a5 a6 a7 a8 a9 a10 a11 a12 a13 a14 a15 a16 a17 a18 a19 a20 : D) : lenOk [a0, a1, a2, a3, a4, a5, a6, a7, a8, a9, a10, a11, a12, a13, a14, a15, a16, a17, a18, a19, a20] = True := eq_true (show _ ≤ _ from nle0)
theorem r_l22 (a0 a1 a2 a3 a4 a5 a6 a7 a8 a9 a10 a11 a12 a13 a14 a15 a16 a17 a18 a19 a20 a21 : D) : lenOk [a0, a1, a2, a3, a4, a5, a6, a7, a8, a9, a10, a11, a12, a13, a14, a15, a16, a17, a18, a19, a20, a21] = True := eq_true (show _ ≤ _ from nle0)
theorem r_l23 (a0 a1 a2 a3 a4 a5 a6 a7 a8 a9 a10 a11 a12 a13 a14 a15 a16 a17 a18 a19 a20 a21 a22 : D) : lenOk [a0, a1, a2, a3, a4, a5, a6, a7, a8, a9, a10, a11, a12, a13, a14, a15, a16, a17, a18, a19, a20, a21, a22] = True := eq_true (show _ ≤ _ from nle0)
theorem r_l24 (a0 a1 a2 a3 a4 a5 a6 a7 a8 a9 a10 a11 a12 a13 a14 a15 a16 a17 a18 a19 a20 a21 a22 a23 : D) : lenOk [a0, a1, a2, a3, a4, a5, a6, a7, a8, a9, a10, a11, a12, a13, a14, a15, a16, a17, a18, a19, a20, a21, a22, a23] = True := eq_true (show _ ≤ _ from nle0)
theorem r_l25 (a0 a1 a2 a3 a4 a5 a6 a7 a8 a9 a10 a11 a12 a13 a14 a15 a16 a17 a18 a19 a20 a21 a22 a23 a24 : D) : lenOk [a0, a1, a2, a3, a4, a5, a6, a7, a8, a9, a10, a11, a12, a13, a14, a15, a16, a17, a18, a19, a20, a21, a22, a23, a24] = True := eq_true (show _ ≤ _ from nle0)
theorem r_l26 (a0 a1 a2 a3 a4 a5 a6 a7 a8 a9 a10 a11 a12 a13 a14 a15 a16 a17 a18 a19 a20 a21 a22 a23 a24 a25 : D) : lenOk [a0, a1, a2, a3, a4, a5, a6, a7, a8, a9, a10, a11, a12, a13, a14, a15, a16, a17, a18, a19, a20, a21, a22, a23, a24, a25] = True := eq_true (show _ ≤ _ from nle0)
theorem r_l27 (a0 a1 a2 a3 a4 a5 a6 a7 a8 a9 a10 a11 a12 a13 a14 a15 a16 a17 a18 a19 a20 a21 a22 a23 a24 a25 a26 : D) : lenOk [a0, a1, a2, a3, a4, a5, a6, a7, a8, a9, a10, a11, a12, a13, a14, a15, a16, a17, a18, a19, a20, a21, a22, a23, a24, a25, a26] = True := eq_true (show _ ≤ _ from nle0)
theorem r_l28 (a0 a1 a2 a3 a4 a5 a6 a7 a8 a9 a10 a11 a12 a13 a14 a15 a16 a17 a18 a19 a20 a21 a22 a23 a24 a25 a26 a27 : D) : lenOk [a0, a1, a2, a3, a4, a5, a6, a7, a8, a9, a10, a11, a12, a13, a14, a15, a16, a17, a18, a19, a20, a21, a22, a23, a24, a25, a26, a27] = True := eq_true (show _ ≤ _ from nle0)
theorem r_l29 (a0 a1 a2 a3 a4 a5 a6 a7 a8 a9 a10 a11 a12 a13 a14 a15 a16 a17 a18 a19 a20 a21 a22 a23 a24 a25 a26 a27 a28 : D) : lenOk [a0, a1, a2, a3, a4, a5, a6, a7, a8, a9, a10, a11, a12, a13, a14, a15, a16, a17, a18, a19, a20, a21, a22, a23, a24, a25, a26, a27, a28] = True := eq_true (show _ ≤ _ from nle0)
theorem r_l30 (a0 a1 a2 a3 a4 a5 a6 a7 a8 a9 a10 a11 a12 a13 a14 a15 a16 a17 a18 a19 a20 a21 a22 a23 a24 a25 a26 a27 a28 a29 : D) : lenOk [a0, a1, a2, a3, a4, a5, a6, a7, a8, a9, a10, a11, a12, a13, a14, a15, a16, a17, a18, a19, a20, a21, a22, a23, a24, a25, a26, a27, a28, a29] = True := eq_true (show _ ≤ _ from nle0)
theorem r_l31 (a0 a1 a2 a3 a4 a5 a6 a7 a8 a9 a10 a11 a12 a13 a14 a15 a16 a17 a18 a19 a20 a21 a22 a23 a24 a25 a26 a27 a28 a29 a30 : D) : lenOk [a0, a1, a2, a3, a4, a5, a6, a7, a8, a9, a10, a11, a12, a13, a14, a15, a16, a17, a18, a19, a20, a21, a22, a23, a24, a25, a26, a27, a28, a29, a30] = True := eq_true (show _ ≤ _ from nle0)
theorem r_l32 (a0 a1 a2 a3 a4 a5 a6 a7 a8 a9 a10 a11 a12 a13 a14 a15 a16 a17 a18 a19 a20 a21 a22 a23 a24 a25 a26 a27 a28 a29 a30 a31 : D) : lenOk [a0, a1, a2, a3, a4, a5, a6, a7, a8, a9, a10, a11, a12, a13, a14, a15, a16, a17, a18, a19, a20, a21, a22, a23, a24, a25, a26, a27, a28, a29, a30, a31] = True := eq_true (show _ ≤ _ from nle0)
/-! operators of ints -/
theorem r_add (i j : Int) (S : Store) (Q : DK) : bop .Add (.int i) (.int j) S Q = Q (.int (i + j)) S := rfl
theorem r_sub (i j : Int) (S : Store) (Q : DK) : bop .Sub (.int i) (.int j) S Q = Q (.int (i - j)) S := rfl
theorem r_mul (i j : Int) (S : Store) (Q : DK) : bop .Mult (.int i) (.int j) S Q = (Sm i ∧ Sm j ∧ Q (.int (i * j)) S) := rfl
theorem r_div (i j : Int) (S : Store) (Q : DK) : bop .FloorDiv (.int i) (.int j) S Q = (0 < j ∧ Sm j ∧ Q (.int (i / j)) S) := rfl
theorem r_mod (i j : Int) (S : Store) (Q : DK) : bop .Mod (.int i) (.int j) S Q = (0 < j ∧ Q (.int (i % j)) S) := rfl
theorem r_pow (i j : Int) (S : Store) (Q : DK) : bop .Pow (.int i) (.int j) S Q = (0 ≤ j ∧ j ≤ 1000 ∧ Sm i ∧ Q (.int (i ^ j.toNat)) S) := rfl
theorem r_addt (a b : List D) (S : Store) (Q : DK) : bop .Add (.tup a) (.tup b) S Q = (a.length + b.length ≤ 1000000 ∧ Q (.tup (a ++ b)) S) := rfl
theorem r_iadd (i j : Int) (S : Store) (Q : DK) : iop .Add (.int i) (.int j) S Q = Q (.int (i + j)) S := rfl
theorem r_isub (i j : Int) (S : Store) (Q : DK) : iop .Sub (.int i) (.int j) S Q = Q (.int (i - j)) S := rfl
theorem r_lt (i j : Int) (S : Store) (K : Bool → Prop) : cmpB .Lt (.int i) (.int j) S K = K (decide (i < j)) := rfl
theorem r_le (i j : Int) (S : Store) (K : Bool → Prop) : cmpB .LtE (.int i) (.int j) S K = K (decide (i ≤ j)) := rfl
theorem r_gt (i j : Int) (S : Store) (K : Bool → Prop) : cmpB .Gt (.int i) (.int j) S K = K (decide (j < i)) := rfl
theorem r_ge (i j : Int) (S : Store) (K : Bool → Prop) : cmpB .GtE (.int i) (.int j) S K = K (decide (j ≤ i)) := rfl
theorem r_eqi (i j : Int) (S : Store) (K : Bool → Prop) : cmpB .Eq (.int i) (.int j) S K = K (i == j) := rfl
theorem r_nei (i j : Int) (S : Store) (K : Bool → Prop) : cmpB .NotEq (.int i) (.int j) S K = K (!(i == j)) := rfl
theorem r_eqs (i j : Str) (S : Store) (K : Bool → Prop) : cmpB .Eq (.str i) (.str j) S K = K (i == j) := rfl
theorem r_nes (i j : Str) (S : Store) (K : Bool → Prop) : cmpB .NotEq (.str i) (.str j) S K = K (!(i == j)) := rfl
theorem r_eqb (i j : Bool) (S : Store) (K : Bool → Prop) : cmpB .Eq (.bl i) (.bl j) S K = K (i == j) := rfl
def isNon : D → Bool
  | .non => true
  | _ => false
theorem n_non : isNon .non = true := rfl
theorem n_int (i : Int) : isNon (.int i) = false := rfl
theorem n_ref (i : Nat) : isNon (.ref i) = false := rfl
theorem n_tup (l : List D) : isNon (.tup l) = false := rfl
theorem n_bl (b : Bool) : isNon (.bl b) = false := rfl
theorem n_str (b : Str) : isNon (.str b) = false := rfl
theorem r_is (x : D) (S : Store) (K : Bool → Prop) : cmpB .Is x .non S K = K (isNon x) := by cases x <;> rfl
theorem r_isn (x : D) (S : Store) (K : Bool → Prop) : cmpB .IsNot x .non S K = K (!isNon x) := by cases x <;> rfl
theorem r_isi (t : Ty) (x : D) (S : Store) (Q : DK) : bt (.isi t) [x] S Q = (match isTy S x t with | some k => Q (.bl k) S | none => False) := rfl
theorem r_max2 (i j : Int) (S : Store) (Q : DK) : bt .max2 [.int i, .int j] S Q = Q (.int (imax i j)) S := rfl
theorem r_min2 (i j : Int) (S : Store) (Q : DK) : bt .min2 [.int i, .int j] S Q = Q (.int (imin i j)) S := rfl
theorem r_int (i : Int) (S : Store) (Q : DK) : bt .int1 [.int i] S Q = Q (.int i) S := rfl
theorem r_intb (b : Bool) (S : Store) (Q : DK) : bt .int1 [.bl b] S Q = Q (.int (if b then 1 else 0)) S := rfl
theorem r_lent (l : List D) (S : Store) (Q : DK) : bt .len [.tup l] S Q = (l.length ≤ 1000000 ∧ Q (.int l.length) S) := rfl
theorem r_listt (l : List D) (S : Store) (Q : DK) : bt .list1 [.tup l] S Q = Q (.ref S.length) (S ++ [.lst l]) := rfl
theorem r_slt (l : List D) (a b : Option Int) (S : Store) (Q : DK) : slD (.tup l) a b S Q = Q (.tup (cut l a b)) S := rfl
theorem r_itt (l : List D) (S : Store) (R : List D → (Store → Prop) → Prop) : itSeq (.tup l) S R = R l (fun _ => True) := rfl
/-! parts of tuples -/
theorem r_ix0 (a : D) (l : List D) (S : Store) (Q : DK) : ixD (.tup (a :: l)) (.int 0) S Q = Q a S := by
  show (match L2.atI (a :: l) 0 with | some v => Q v S | none => False) = _
  rw [show L2.atI (a :: l) 0 = some a from L2.atI_nat (j := 0) rfl]
theorem r_ix1 (a b : D) (l : List D) (S : Store) (Q : DK) : ixD (.tup (a :: b :: l)) (.int 1) S Q = Q b S := by
  show (match L2.atI (a :: b :: l) 1 with | some v => Q v S | none => False) = _
  rw [show L2.atI (a :: b :: l) 1 = some b from L2.atI_nat (j := 1) rfl]
theorem r_ix2 (a b c : D) (l : List D) (S : Store) (Q : DK) : ixD (.tup (a :: b :: c :: l)) (.int 2) S Q = Q c S := by
  show (match L2.atI (a :: b :: c :: l) 2 with | some v => Q v S | none => False) = _
  rw [show L2.atI (a :: b :: c :: l) 2 = some c from L2.atI_nat (j := 2) rfl]
theorem r_ix3 (a b c d : D) (l : List D) (S : Store) (Q : DK) : ixD (.tup (a :: b :: c :: d :: l)) (.int 3) S Q = Q d S := by
  show (match L2.atI (a :: b :: c :: d :: l) 3 with | some v => Q v S | none => False) = _
  rw [show L2.atI (a :: b :: c :: d :: l) 3 = some d from L2.atI_nat (j := 3) rfl]
theorem r_ix4 (a b c d e : D) (l : List D) (S : Store) (Q : DK) : ixD (.tup (a :: b :: c :: d :: e :: l)) (.int 4) S Q = Q e S := by
  show (match L2.atI (a :: b :: c :: d :: e :: l) 4 with | some v => Q v S | none => False) = _
  rw [show L2.atI (a :: b :: c :: d :: e :: l) 4 = some e from L2.atI_nat (j := 4) rfl]
/-! lists in the store -/
theorem lq_of {S : Store} {n : Nat} {l : List D} (h : S[n]? = some (.lst l)) : lq? S (.ref n) = some l := lst_of h
theorem sq_of {S : Store} {n : Nat} {l : List D} (h : S[n]? = some (.lst l)) : seq? S (.ref n) = some l := lst_of h
theorem sq_dct {S : Store} {n : Nat} {kvs : List (Key × D)} (h : S[n]? = some (.dct kvs)) : seq? S (.ref n) = none := by
  show lst? S n = none
  unfold lst?
  rw [h]
theorem keyOf_keyD (k : Key) : keyOf (keyD k) = some k := by cases k <;> rfl
theorem len_go {S : Store} {n : Nat} {l : List D} {Q : DK} (h : S[n]? = some (.lst l)) (hl : l.length ≤ 1000000) (q : Q (.int l.length) S) : bt .len [.ref n] S Q := by
  show (match len? S (.ref n) with | some n => n ≤ 1000000 ∧ Q (.int n) S | none => False)
  unfold len?
  dsimp only
  rw [h]
  exact ⟨hl, q⟩
theorem lend_go {S : Store} {n : Nat} {l : List (Key × D)} {Q : DK} (h : S[n]? = some (.dct l)) (hl : l.length ≤ 1000000) (q : Q (.int l.length) S) : bt .len [.ref n] S Q := by
  show (match len? S (.ref n) with | some n => n ≤ 1000000 ∧ Q (.int n) S | none => False)
  unfold len?
  dsimp only
  rw [h]
  exact ⟨hl, q⟩
theorem addl_go {S : Store} {a b : Nat} {l m : List D} {Q : DK} (h1 : S[a]? = some (.lst l)) (h2 : S[b]? = some (.lst m)) (hl : l.length + m.length ≤ 1000000) (q : Q (.ref S.length) (S ++ [.lst (l ++ m)])) : bop .Add (.ref a) (.ref b) S Q := by
  show (match lq? S (.ref a), lq? S (.ref b) with | some l, some m => l.length + m.length ≤ 1000000 ∧ Q (.ref S.length) (S ++ [.lst (l ++ m)]) | _, _ => False)
  rw [lq_of h1, lq_of h2]
  exact ⟨hl, q⟩
theorem listd_go {S : Store} {n : Nat} {l : List (Key × D)} {Q : DK} (h : S[n]? = some (.dct l)) (q : Q (.ref S.length) (S ++ [.lst (l.map fun kv => keyD kv.1)])) : bt .list1 [.ref n] S Q := by
  show bList [.ref n] S Q
  unfold bList
  dsimp only
  rw [sq_dct h, dct_of h]
  exact q
theorem listl_go {S : Store} {n : Nat} {l : List D} {Q : DK} (h : S[n]? = some (.lst l)) (q : Q (.ref S.length) (S ++ [.lst l])) : bt .list1 [.ref n] S Q := by
  show bList [.ref n] S Q
  unfold bList
  dsimp only
  rw [sq_of h]
  exact q
theorem tuple_go {S : Store} {n : Nat} {l : List D} {Q : DK} (h : S[n]? = some (.lst l)) (q : Q (.tup l) S) : bt .tuple1 [.ref n] S Q := by
  show bTuple [.ref n] S Q
  unfold bTuple
  dsimp only
  rw [sq_of h]
  exact q
theorem dict_go {S : Store} {n : Nat} {l : List (Key × D)} {Q : DK} (h : S[n]? = some (.dct l)) (q : Q (.ref S.length) (S ++ [.dct l])) : bt .dict1 [.ref n] S Q := by
  show bDict [.ref n] S Q
  unfold bDict
  dsimp only
  rw [dct_of h]
  exact q
theorem ixl_go {S : Store} {n : Nat} {l : List D} {i : Int} {d : D} {Q : DK} (h : S[n]? = some (.lst l)) (e : L2.atI l i = some d) (q : Q d S) : ixD (.ref n) (.int i) S Q := ix_go (sq_of h) e q
theorem ixn_go {S : Store} {n : Nat} {l : List D} {i : Int} {j : Nat} {d : D} {Q : DK} (h : S[n]? = some (.lst l)) (hi : i = j) (e : l[j]? = some d) (q : Q d S) : ixD (.ref n) (.int i) S Q := by
  subst hi
  exact ix_go (sq_of h) (L2.atI_nat e) q
theorem ixt_go {S : Store} {l : List D} {i : Int} {j : Nat} {d : D} {Q : DK} (hi : i = j) (e : l[j]? = some d) (q : Q d S) : ixD (.tup l) (.int i) S Q := by
  subst hi
  exact ix_go rfl (L2.atI_nat e) q
theorem dctr_of {S : Store} {n : Nat} {l : List (Key × D)} (h : S[n]? = some (.dct l)) : dctr? S (.ref n) = some l := by
  unfold dctr?
  dsimp only
  rw [h]
theorem dctr_off {S : Store} {n : Nat} {l : List (Key × D)} (h : S[n]? = some (.fdct l)) : dctr? S (.ref n) = some l := by
  unfold dctr?
  dsimp only
  rw [h]
theorem sq_dctf {S : Store} {n : Nat} {kvs : List (Key × D)} (h : S[n]? = some (.fdct kvs)) : seq? S (.ref n) = none := by
  show lst? S n = none
  unfold lst?
  rw [h]
theorem ixd_go {S : Store} {n : Nat} {kvs : List (Key × D)} {k : Key} {d : D} {Q : DK} (h : S[n]? = some (.dct kvs)) (e : dGet kvs k = some d) (q : Q d S) : ixD (.ref n) (keyD k) S Q := by
  unfold ixD
  rw [sq_dct h, dctr_of h, keyOf_keyD]
  dsimp only
  rw [e]
  exact q
theorem ixi_go {S : Store} {n : Nat} {kvs : List (Key × D)} {i : Int} {d : D} {Q : DK} (h : S[n]? = some (.dct kvs)) (e : dGet kvs (.inl i) = some d) (q : Q d S) : ixD (.ref n) (.int i) S Q := ixd_go (k := .inl i) h e q
theorem ixf_go {S : Store} {n : Nat} {kvs : List (Key × D)} {k : Key} {d : D} {Q : DK} (h : S[n]? = some (.fdct kvs)) (e : dGet kvs k = some d) (q : Q d S) : ixD (.ref n) (keyD k) S Q := by
  unfold ixD
  rw [sq_dctf h, dctr_off h, keyOf_keyD]
  dsimp only
  rw [e]
  exact q
theorem in_go {S : Store} {n : Nat} {kvs : List (Key × D)} {k : Key} {K : Bool → Prop} (h : S[n]? = some (.dct kvs)) (q : K (dGet kvs k).isSome) : cmpB .In (keyD k) (.ref n) S K := by
  show cIn (keyD k) (.ref n) S K
  unfold cIn
  rw [sq_dct h, dctr_of h, keyOf_keyD]
  exact q
theorem ini_go {S : Store} {n : Nat} {kvs : List (Key × D)} {i : Int} {K : Bool → Prop} (h : S[n]? = some (.dct kvs)) (q : K (dGet kvs (.inl i)).isSome) : cmpB .In (.int i) (.ref n) S K := in_go (k := .inl i) h q
theorem any_go {S : Store} {n : Nat} {l : List D} {b : List Bool} {Q : DK} (h : S[n]? = some (.lst l)) (e : bls? l = some b) (q : Q (.bl (b.any id)) S) : bt .any1 [.ref n] S Q := by
  show (match (lst? S n).bind bls? with | some l => Q (.bl (l.any id)) S | none => False)
  rw [lst_of h]
  show (match bls? l with | some l => Q (.bl (l.any id)) S | none => False)
  rw [e]
  exact q
theorem all_go {S : Store} {n : Nat} {l : List D} {b : List Bool} {Q : DK} (h : S[n]? = some (.lst l)) (e : bls? l = some b) (q : Q (.bl (b.all id)) S) : bt .all1 [.ref n] S Q := by
  show (match (lst? S n).bind bls? with | some l => Q (.bl (l.all id)) S | none => False)
  rw [lst_of h]
  show (match bls? l with | some l => Q (.bl (l.all id)) S | none => False)
  rw [e]
  exact q
theorem sum_go {S : Store} {n : Nat} {l : List D} {b : List Int} {Q : DK} (h : S[n]? = some (.lst l)) (e : ints? l = some b) (q : Q (.int b.sum) S) : bt .sum1 [.ref n] S Q := by
  show (match (lst? S n).bind ints? with | some l => Q (.int l.sum) S | none => False)
  rw [lst_of h]
  show (match ints? l with | some l => Q (.int l.sum) S | none => False)
  rw [e]
  exact q
theorem intsF_map (l : List Int) : ints? (l.map D.int) = some l := by
  induction l with
  | nil => rfl
  | cons a l ih =>
    show (ints? (l.map D.int)).map (a :: ·) = _
    rw [ih]
    rfl
theorem bls_map (l : List Bool) : bls? (l.map D.bl) = some l := by
  induction l with
  | nil => rfl
  | cons a l ih =>
    show (bls? (l.map D.bl)).map (a :: ·) = _
    rw [ih]
    rfl
theorem sorted_go {S : Store} {n : Nat} {l : List D} {Q : DK} (h : S[n]? = some (.lst l)) (o : OrdOk l) (q : Q (.ref S.length) (S ++ [.lst (sortD l)])) : bt .sorted1 [.ref n] S Q := by
  show bSorted [.ref n] S Q
  unfold bSorted
  dsimp only
  rw [lq_of h]
  exact ⟨o, q⟩
theorem min_go {S : Store} {n : Nat} {d : D} {l : List D} {Q : DK} (h : S[n]? = some (.lst (d :: l))) (o : OrdOk (d :: l)) (q : Q (minL d l) S) : bt .min1 [.ref n] S Q := by
  show bBest minL [.ref n] S Q
  unfold bBest
  dsimp only
  rw [lq_of h]
  exact ⟨o, q⟩
theorem max_go {S : Store} {n : Nat} {d : D} {l : List D} {Q : DK} (h : S[n]? = some (.lst (d :: l))) (o : OrdOk (d :: l)) (q : Q (maxL d l) S) : bt .max1 [.ref n] S Q := by
  show bBest maxL [.ref n] S Q
  unfold bBest
  dsimp only
  rw [lq_of h]
  exact ⟨o, q⟩
def maxR : List Int → Int
  | [] => -1
  | a :: l => maxI a l
theorem maxd_go {S : Store} {n : Nat} {R : List Int} {Q : DK} (h : S[n]? = some (.lst (R.map D.int))) (q : Q (.int (maxR R)) S) : bt .maxd [.ref n, .int (-1)] S Q := by
  show bMaxd [.ref n, .int (-1)] S Q
  unfold bMaxd
  dsimp only
  rw [lq_of h]
  cases R with
  | nil => exact q
  | cons a R =>
    refine ⟨ord_ints (a :: R), ?_⟩
    rw [maxL_int]
    exact q
theorem maxR_le {R : List Int} {i : Nat} (h : (i : Int) ≤ maxR R) : ∃ r ∈ R, (i : Int) ≤ r := by
  cases R with
  | nil =>
    have : (i : Int) ≤ -1 := h
    omega
  | cons a R =>
    obtain ⟨h1, h2, h3⟩ := maxI_spec R a
    rcases h1 with e | e
    · exact ⟨a, by simp, by have : (i : Int) ≤ maxI a R := h; omega⟩
    · exact ⟨maxI a R, by simp [e], h⟩
theorem maxR_lt {R : List Int} {i : Int} (h : ¬ i ≤ maxR R) : ∀ r ∈ R, r < i := by
  cases R with
  | nil => exact fun r hr => nomatch hr
  | cons a R =>
    obtain ⟨h1, h2, h3⟩ := maxI_spec R a
    have h : ¬ i ≤ maxI a R := h
    intro r hr
    rcases List.mem_cons.mp hr with rfl | hr
    · omega
    · have := h3 r hr
      omega
theorem sll_go {S : Store} {n : Nat} {l : List D} {a b : Option Int} {Q : DK} (h : S[n]? = some (.lst l)) (q : Q (.ref S.length) (S ++ [.lst (cut l a b)])) : slD (.ref n) a b S Q := by
  show (match lq? S (.ref n) with | some l => Q (.ref S.length) (S ++ [.lst (cut l a b)]) | none => False)
  rw [lq_of h]
  exact q
theorem setl_go {S : Store} {n j : Nat} {l : List D} {i : Int} {v : D} {Q : Store → Prop} (h : S[n]? = some (.lst l)) (hi : i = j) (hj : j < l.length) (q : Q (S.set n (.lst (l.set j v)))) : setIx (.ref n) (.int i) v S Q := by
  subst hi
  show (match S[n]? with
    | some (.lst l) => (match L2.ixN l.length (j : Int) with
        | some j => Q (S.set n (.lst (l.set j v)))
        | none => False)
    | some (.dct kvs) => kvs.length < 1000000 ∧ Q (S.set n (.dct (dPut kvs (.inl j) v)))
    | _ => False)
  rw [h]
  dsimp only
  rw [show L2.ixN l.length (j : Int) = some j by unfold L2.ixN; simp; omega]
  exact q
theorem seti_go {S : Store} {n : Nat} {kvs : List (Key × D)} {i : Int} {v : D} {Q : Store → Prop} (h : S[n]? = some (.dct kvs)) (hl : kvs.length < 1000000) (q : Q (S.set n (.dct (dPut kvs (.inl i) v)))) : setIx (.ref n) (.int i) v S Q := setD_go (k := .inl i) h hl q
theorem popAt0_go {S : Store} {n : Nat} {d : D} {l : List D} {Q : DK} (h : S[n]? = some (.lst (d :: l))) (q : Q d (S.set n (.lst l))) : bm .popAt (.ref n) [.int 0] S Q := by
  show mPopAt (.ref n) [.int 0] S Q
  unfold mPopAt
  dsimp only
  rw [h]
  dsimp only
  rw [show L2.ixN (d :: l).length 0 = some 0 by unfold L2.ixN; simp]
  exact q
theorem cut_from (l : List D) (k : Nat) : cut l (some (k : Int)) none = l.drop k := by
  unfold cut
  rw [HT.sIx_nat, HT.sIx_none]
  by_cases h : k ≤ l.length
  · rw [Nat.min_eq_left h, List.take_of_length_le (by rw [List.length_drop]; exact Nat.le_refl _)]
  · rw [Nat.min_eq_right (by omega), List.drop_eq_nil_of_le (Nat.le_refl _), List.drop_eq_nil_of_le (by omega)]
    simp
theorem cut_to (l : List D) (k : Nat) : cut l none (some (k : Int)) = l.take k := by
  unfold cut
  rw [HT.sIx_nat, HT.sIx_none]
  simp
theorem cut_all (l : List D) : cut l none none = l := by
  unfold cut
  rw [HT.sIx_none, HT.sIx_none]
  simp
end Mn

local macro_rules | `(tactic| ac_rfl) => `(tactic| ((try (dsimp only [Mn.e_no, Mn.e_v, Mn.e_cst, Mn.e_and, Mn.e_or, Mn.e_not, Mn.e_ite, Mn.e_bin, Mn.e_neg, Mn.e_cmp, Mn.e_chn, Mn.e_ix, Mn.e_sl, Mn.e_rev, Mn.e_dct, Mn.e_bm, Mn.e_attr, Mn.e_meth, Mn.e_make, Mn.e_lc, Mn.e_dc, Mn.e_tup, Mn.e_lst, Mn.e_call, Mn.e_calld, Mn.e_callk, Mn.e_blt, Mn.es_n, Mn.es_c, Mn.i_seq, Mn.i_enum, Mn.i_rng, Mn.i_rngd, Mn.i_rng2, Mn.i_keys, Mn.c_set, Mn.c_asg, Mn.c_par, Mn.c_star, Mn.c_unp, Mn.c_setA, Mn.c_aug, Mn.c_augA, Mn.c_augX, Mn.c_pass, Mn.c_raise, Mn.c_setIx, Mn.c_ret, Mn.c_ex, Mn.c_cond, Mn.c_whl, Mn.c_for, Mn.cs_n, Mn.optP, Mn.rtEnds, Mn.Tg.bind, Mn.Tgs.bind, List.getElem?_cons_zero, List.getElem?_cons_succ, List.set_cons_zero, List.set_cons_succ, List.length_cons, List.length_nil, Mn.wipeE, Mn.r_add, Mn.r_sub, Mn.r_mul, Mn.r_div, Mn.r_mod, Mn.r_pow, Mn.r_addt, Mn.r_iadd, Mn.r_isub, Mn.r_lt, Mn.r_le, Mn.r_gt, Mn.r_ge, Mn.r_eqi, Mn.r_nei, Mn.r_eqs, Mn.r_nes, Mn.r_eqb, Mn.n_non, Mn.n_int, Mn.n_ref, Mn.n_tup, Mn.n_bl, Mn.n_str, Mn.r_isi, Mn.isTy, Mn.isL, Option.map_some, Mn.r_max2, Mn.r_min2, Mn.r_int, Mn.r_intb, Mn.r_lent, Mn.r_listt, Mn.r_slt, Mn.r_itt, Bool.not_true, Bool.not_false, List.nil_append, List.cons_append])); (try (simp only [Mn.r_is, Mn.r_isn, Mn.r_ix0, Mn.r_ix1, Mn.r_ix2, Mn.r_ix3, Mn.r_ix4, Mn.r_l0, Mn.r_l1, Mn.r_l2, Mn.r_l3, Mn.r_l4, Mn.r_l5, Mn.r_l6, Mn.r_l7, Mn.r_l8, Mn.r_l9, Mn.r_l10, Mn.r_l11, Mn.r_l12, Mn.r_l13, Mn.r_l14, Mn.r_l15, Mn.r_l16, Mn.r_l17, Mn.r_l18, Mn.r_l19, Mn.r_l20, Mn.r_l21, Mn.r_l22, Mn.r_l23, Mn.r_l24, Mn.r_l25, Mn.r_l26, Mn.r_l27, Mn.r_l28, Mn.r_l29, Mn.r_l30, Mn.r_l31, Mn.r_l32, true_and])); (try (dsimp only [Mn.e_no, Mn.e_v, Mn.e_cst, Mn.e_and, Mn.e_or, Mn.e_not, Mn.e_ite, Mn.e_bin, Mn.e_neg, Mn.e_cmp, Mn.e_chn, Mn.e_ix, Mn.e_sl, Mn.e_rev, Mn.e_dct, Mn.e_bm, Mn.e_attr, Mn.e_meth, Mn.e_make, Mn.e_lc, Mn.e_dc, Mn.e_tup, Mn.e_lst, Mn.e_call, Mn.e_calld, Mn.e_callk, Mn.e_blt, Mn.es_n, Mn.es_c, Mn.i_seq, Mn.i_enum, Mn.i_rng, Mn.i_rngd, Mn.i_rng2, Mn.i_keys, Mn.c_set, Mn.c_asg, Mn.c_par, Mn.c_star, Mn.c_unp, Mn.c_setA, Mn.c_aug, Mn.c_augA, Mn.c_augX, Mn.c_pass, Mn.c_raise, Mn.c_setIx, Mn.c_ret, Mn.c_ex, Mn.c_cond, Mn.c_whl, Mn.c_for, Mn.cs_n, Mn.optP, Mn.rtEnds, Mn.Tg.bind, Mn.Tgs.bind, List.getElem?_cons_zero, List.getElem?_cons_succ, List.set_cons_zero, List.set_cons_succ, List.length_cons, List.length_nil, Mn.wipeE, Mn.r_add, Mn.r_sub, Mn.r_mul, Mn.r_div, Mn.r_mod, Mn.r_pow, Mn.r_addt, Mn.r_iadd, Mn.r_isub, Mn.r_lt, Mn.r_le, Mn.r_gt, Mn.r_ge, Mn.r_eqi, Mn.r_nei, Mn.r_eqs, Mn.r_nes, Mn.r_eqb, Mn.n_non, Mn.n_int, Mn.n_ref, Mn.n_tup, Mn.n_bl, Mn.n_str, Mn.r_isi, Mn.isTy, Mn.isL, Option.map_some, Mn.r_max2, Mn.r_min2, Mn.r_int, Mn.r_intb, Mn.r_lent, Mn.r_listt, Mn.r_slt, Mn.r_itt, Bool.not_true, Bool.not_false, List.nil_append, List.cons_append])); (try (simp only [Mn.r_is, Mn.r_isn, Mn.r_ix0, Mn.r_ix1, Mn.r_ix2, Mn.r_ix3, Mn.r_ix4, Mn.r_l0, Mn.r_l1, Mn.r_l2, Mn.r_l3, Mn.r_l4, Mn.r_l5, Mn.r_l6, Mn.r_l7, Mn.r_l8, Mn.r_l9, Mn.r_l10, Mn.r_l11, Mn.r_l12, Mn.r_l13, Mn.r_l14, Mn.r_l15, Mn.r_l16, Mn.r_l17, Mn.r_l18, Mn.r_l19, Mn.r_l20, Mn.r_l21, Mn.r_l22, Mn.r_l23, Mn.r_l24, Mn.r_l25, Mn.r_l26, Mn.r_l27, Mn.r_l28, Mn.r_l29, Mn.r_l30, Mn.r_l31, Mn.r_l32, true_and])); (try (dsimp only [Mn.e_no, Mn.e_v, Mn.e_cst, Mn.e_and, Mn.e_or, Mn.e_not, Mn.e_ite, Mn.e_bin, Mn.e_neg, Mn.e_cmp, Mn.e_chn, Mn.e_ix, Mn.e_sl, Mn.e_rev, Mn.e_dct, Mn.e_bm, Mn.e_attr, Mn.e_meth, Mn.e_make, Mn.e_lc, Mn.e_dc, Mn.e_tup, Mn.e_lst, Mn.e_call, Mn.e_calld, Mn.e_callk, Mn.e_blt, Mn.es_n, Mn.es_c, Mn.i_seq, Mn.i_enum, Mn.i_rng, Mn.i_rngd, Mn.i_rng2, Mn.i_keys, Mn.c_set, Mn.c_asg, Mn.c_par, Mn.c_star, Mn.c_unp, Mn.c_setA, Mn.c_aug, Mn.c_augA, Mn.c_augX, Mn.c_pass, Mn.c_raise, Mn.c_setIx, Mn.c_ret, Mn.c_ex, Mn.c_cond, Mn.c_whl, Mn.c_for, Mn.cs_n, Mn.optP, Mn.rtEnds, Mn.Tg.bind, Mn.Tgs.bind, List.getElem?_cons_zero, List.getElem?_cons_succ, List.set_cons_zero, List.set_cons_succ, List.length_cons, List.length_nil, Mn.wipeE, Mn.r_add, Mn.r_sub, Mn.r_mul, Mn.r_div, Mn.r_mod, Mn.r_pow, Mn.r_addt, Mn.r_iadd, Mn.r_isub, Mn.r_lt, Mn.r_le, Mn.r_gt, Mn.r_ge, Mn.r_eqi, Mn.r_nei, Mn.r_eqs, Mn.r_nes, Mn.r_eqb, Mn.n_non, Mn.n_int, Mn.n_ref, Mn.n_tup, Mn.n_bl, Mn.n_str, Mn.r_isi, Mn.isTy, Mn.isL, Option.map_some, Mn.r_max2, Mn.r_min2, Mn.r_int, Mn.r_intb, Mn.r_lent, Mn.r_listt, Mn.r_slt, Mn.r_itt, Bool.not_true, Bool.not_false, List.nil_append, List.cons_append]))))
local macro_rules | `(tactic| bv_omega) => `(tactic| (refine Mn.cs_cons ?_; ac_rfl))

/-! Orders, sorted lists. -/
namespace Mn
open PySem
theorem perm_eq {α : Type} (le : α → α → Prop) (anti : ∀ a b, le a b → le b a → a = b) : ∀ (l m : List α), l.Pairwise le → m.Pairwise le → l.Perm m → l = m
  | [], m, _, _, p => (List.nil_perm.mp p).symm
  | a :: l, [], _, _, p => by cases (List.perm_nil.mp p)
  | a :: l, b :: m, hl, hm, p => by
    have e : a = b := by
      have ha : a ∈ b :: m := p.subset List.mem_cons_self
      have hb : b ∈ a :: l := p.symm.subset List.mem_cons_self
      rcases List.mem_cons.mp ha with e | ha'
      · exact e
      rcases List.mem_cons.mp hb with e | hb'
      · exact e.symm
      exact anti a b (List.rel_of_pairwise_cons hl hb') (List.rel_of_pairwise_cons hm ha')
    subst e
    rw [perm_eq le anti l m hl.tail hm.tail p.cons_inv]
theorem nodup_map {α β : Type} (f : α → β) (hf : ∀ a b, f a = f b → a = b) {l : List α} (h : l.Nodup) : (l.map f).Nodup := List.Pairwise.map f (fun a b hab e => hab (hf a b e)) h
theorem filter_all {α : Type} (l : List α) : l.filter (fun _ => true) = l := List.filter_eq_self.mpr fun _ _ => rfl
/-- an order that is whole -/
structure LinB {α : Type} (le : α → α → Bool) : Prop where
  trans : ∀ a b c, le a b = true → le b c = true → le a c = true
  total : ∀ a b, (le a b || le b a) = true
  anti : ∀ a b, le a b = true → le b a = true → a = b
theorem LinB.sorted {α : Type} {le : α → α → Bool} (h : LinB le) (l : List α) : (l.mergeSort le).Pairwise fun a b => le a b = true := List.pairwise_mergeSort h.trans h.total l
theorem LinB.sort_eq {α : Type} {le : α → α → Bool} (h : LinB le) {l m : List α} (p : l.Perm m) : l.mergeSort le = m.mergeSort le :=
  perm_eq (fun a b => le a b = true) h.anti _ _ (h.sorted l) (h.sorted m) ((List.mergeSort_perm l le).trans (p.trans (List.mergeSort_perm m le).symm))
theorem lin_it : LinB itLe := by
  refine ⟨fun a b c h1 h2 => ?_, fun a b => ?_, fun a b h1 h2 => ?_⟩
  · have h1 := of_decide_eq_true h1
    have h2 := of_decide_eq_true h2
    exact decide_eq_true (by omega)
  · unfold itLe
    rw [Bool.or_eq_true, decide_eq_true_iff, decide_eq_true_iff]
    omega
  · have h1 := of_decide_eq_true h1
    have h2 := of_decide_eq_true h2
    exact Prod.ext (by omega) (by omega)
theorem lin_int : LinB fun a b : Int => decide (a ≤ b) := by
  refine ⟨fun a b c h1 h2 => ?_, fun a b => ?_, fun a b h1 h2 => ?_⟩
  · have h1 := of_decide_eq_true h1
    have h2 := of_decide_eq_true h2
    exact decide_eq_true (by omega)
  · rw [Bool.or_eq_true, decide_eq_true_iff, decide_eq_true_iff]
    omega
  · have h1 := of_decide_eq_true h1
    have h2 := of_decide_eq_true h2
    omega
/-! pairs of an item and a key -/
abbrev Pr := (Int × Int) × Int
def prD (p : Pr) : D := .tup [itD p.1, .int p.2]
def prLt (p q : Pr) : Bool := decide (p.1.1 < q.1.1 ∨ (p.1.1 = q.1.1 ∧ (p.1.2 < q.1.2 ∨ (p.1.2 = q.1.2 ∧ p.2 < q.2))))
def prLe (p q : Pr) : Bool := decide (p.1.1 < q.1.1 ∨ (p.1.1 = q.1.1 ∧ (p.1.2 < q.1.2 ∨ (p.1.2 = q.1.2 ∧ p.2 ≤ q.2))))
def sortPr (l : List Pr) : List Pr := l.mergeSort prLe
theorem lin_pr : LinB prLe := by
  refine ⟨fun a b c h1 h2 => ?_, fun a b => ?_, fun a b h1 h2 => ?_⟩
  · have h1 := of_decide_eq_true h1
    have h2 := of_decide_eq_true h2
    exact decide_eq_true (by omega)
  · unfold prLe
    rw [Bool.or_eq_true, decide_eq_true_iff, decide_eq_true_iff]
    omega
  · have h1 := of_decide_eq_true h1
    have h2 := of_decide_eq_true h2
    exact Prod.ext (Prod.ext (by omega) (by omega)) (by omega)
theorem eqv_it (p q : Int × Int) : PyData.eqv (itD p).py (itD q).py = decide (p = q) := by
  obtain ⟨a, b⟩ := p
  obtain ⟨c, d⟩ := q
  show (PyData.eqv (.int a) (.int c) && (PyData.eqv (.int b) (.int d) && true)) = _
  simp only [PyData.eqv]
  by_cases h1 : a = c <;> by_cases h2 : b = d <;> simp [h1, h2]
theorem dlt_pr (p q : Pr) : PySem.W.dataLt (prD p).py (prD q).py = prLt p q := by
  have e := PySem.W.dataLt_pair (x := (itD p.1).py) (y := .int p.2) (x' := (itD q.1).py) (y' := .int q.2) (by simp [D.py, itD, pys, PySem.W.alike, PySem.W.alikeAll]) (by simp [PySem.W.alike])
  have e2 : PySem.W.dataLt (prD p).py (prD q).py = PySem.W.dataLt (.tuple [(itD p.1).py, .int p.2]) (.tuple [(itD q.1).py, .int q.2]) := rfl
  rw [e2, e, eqv_it, dlt_it, PySem.W.dataLt_int]
  have e3 : PyData.eqv (.int p.2) (.int q.2) = decide (p.2 = q.2) := by
    simp only [PyData.eqv]
    by_cases h : p.2 = q.2 <;> simp [h]
  rw [e3]
  obtain ⟨⟨a, b⟩, c⟩ := p
  obtain ⟨⟨a', b'⟩, c'⟩ := q
  unfold prLt itLt
  simp only [Prod.mk.injEq, decide_eq_true_eq]
  by_cases h1 : a = a' ∧ b = b'
  · obtain ⟨rfl, rfl⟩ := h1
    by_cases h2 : c = c'
    · subst h2
      simp
    · simp [h2]
  · rw [if_neg h1]
    congr 1
    apply propext
    omega
theorem sortD_pr (l : List Pr) : sortD (l.map prD) = (sortPr l).map prD := by
  refine sortD_map _ _ (fun a b => ?_) l
  show (!PySem.W.dataLt (prD b).py (prD a).py) = _
  rw [dlt_pr]
  unfold prLt prLe
  by_cases h : b.1.1 < a.1.1 ∨ (b.1.1 = a.1.1 ∧ (b.1.2 < a.1.2 ∨ (b.1.2 = a.1.2 ∧ b.2 < a.2)))
  · rw [decide_eq_true h, decide_eq_false (by omega)]
    rfl
  · rw [decide_eq_false h, decide_eq_true (by omega)]
    rfl
theorem ord_prs (l : List Pr) : OrdOk (l.map prD) := by
  refine ⟨purs_map _ _ fun _ _ => rfl, ?_, .inl ?_, ?_⟩
  · rw [pysF_map]
    intro d hd d' hd'
    obtain ⟨a, _, rfl⟩ := List.mem_map.mp hd
    obtain ⟨b, _, rfl⟩ := List.mem_map.mp hd'
    simp [D.py, prD, itD, pys, PySem.W.alike, PySem.W.alikeAll]
  · rw [pysF_map]
    intro d hd
    obtain ⟨a, _, rfl⟩ := List.mem_map.mp hd
    exact ⟨_, _, rfl⟩
  · rw [pysF_map]
    intro d hd
    obtain ⟨a, _, rfl⟩ := List.mem_map.mp hd
    show (PyData.tuple [.tuple [.int a.1.1, .int a.1.2], .int a.2]).depth ≤ 60
    have : (PyData.tuple [.tuple [.int a.1.1, .int a.1.2], .int a.2]).depth = 2 := rfl
    omega
end Mn

/-! More rules for running. -/
namespace Mn
open PySem
theorem ixm2 (a b : D) (S : Store) (Q : DK) : ixD (.tup [a, b]) (.int (-1)) S Q = Q b S := rfl
theorem ixm3 (a b c : D) (S : Store) (Q : DK) : ixD (.tup [a, b, c]) (.int (-1)) S Q = Q c S := rfl
theorem mulN_go {S : Store} {a k : Nat} {d : D} {Q : DK} (h : S[a]? = some (.lst [d])) (hk : k ≤ 1000000) (q : Q (.ref S.length) (S ++ [.lst (List.replicate k d)])) : bop .Mult (.ref a) (.int k) S Q := by
  show (match lst? S a with | some l => (0 : Int) ≤ k ∧ (k : Int) ≤ 1000000 ∧ l.length * (k : Int).toNat ≤ lim ∧ Q (.ref S.length) (S ++ [.lst (List.replicate (k : Int).toNat l).flatten]) | _ => False)
  rw [lst_of h]
  refine ⟨by omega, by omega, by rw [Int.toNat_natCast]; show 1 * k ≤ 1000000; omega, ?_⟩
  rw [Int.toNat_natCast]
  have e : (List.replicate k [d]).flatten = List.replicate k d := by
    clear q hk
    induction k with
    | zero => rfl
    | succ k ih =>
      rw [List.replicate_succ, List.replicate_succ, List.flatten_cons, ih]
      rfl
  rw [e]
  exact q
theorem ltit_go {p q : Int × Int} {S : Store} {K : Bool → Prop} (k : K (itLt p q)) : cmpB .Lt (itD p) (itD q) S K := clt_it p q k
theorem cut1 (d : D) (l : List D) : cut (d :: l) (some 1) none = l := by
  rw [show (some (1 : Int)) = some ((1 : Nat) : Int) from rfl, cut_from]
  rfl
theorem revl_go {S : Store} {n : Nat} {l : List D} {Q : DK} (h : S[n]? = some (.lst l)) (q : Q (.ref S.length) (S ++ [.lst l.reverse])) : revD (.ref n) S Q := by
  unfold revD
  rw [lq_of h]
  exact q
end Mn

/-! Draws. -/
namespace Mn
open PySem
theorem seq_of {S : Store} {n : Nat} {l : List D} (h : S[n]? = some (.lst l)) : seq? S (.ref n) = some l := lst_of h
theorem set_at {S : Store} {s : Nat} {o o' : Ob} (h : S[s]? = some o) : (S.set s o')[s]? = some o' := List.getElem?_set_self (List.getElem?_eq_some_iff.mp h).1
theorem stir_ok (n : Nat) (c k : Int) (S : Store) (Q : DK) (X : XK) (h0 : 0 ≤ k) (h1 : k ≤ 1000000) (q : ∀ i, Q (.int i) S) : callN PP (n + 1) f_law_stir [.int c, .int k] S Q X := by
  refine ⟨rfl, ?_⟩
  have hc : 0 ≤ c % (10 ^ 60) ∧ c % (10 ^ 60) < 10 ^ 60 := ⟨Int.emod_nonneg _ (by decide), Int.emod_lt_of_pos _ (by decide)⟩
  have s10 : Sm 10 := Sm.of_le (by decide) (by decide)
  have sk : Sm k := Sm.of_le (by omega) (by omega)
  refine ⟨by decide, by decide, s10, by show (0 : Int) < 10 ^ 60; decide, ?_⟩
  refine ⟨Sm.of_le (by decide) (by decide), sk, ?_⟩
  refine ⟨?_, Sm.of_le (by decide) (by decide), ?_⟩
  · show Sm (c % 10 ^ 60 + 7919 * k + 1)
    refine Sm.of_nat (a := 210) ?_ (by decide)
    omega
  generalize hN : (c % (10 : Int) ^ (60 : Int).toNat + 7919 * k + 1) * 27182818284590452353602874713527 = N
  refine ⟨by decide, ?_⟩
  have hm : 0 ≤ N % 170141183460469231731687303715884105727 ∧ N % 170141183460469231731687303715884105727 < 170141183460469231731687303715884105727 := ⟨Int.emod_nonneg _ (by decide), Int.emod_lt_of_pos _ (by decide)⟩
  generalize hM : N % 170141183460469231731687303715884105727 = M
  rw [hM] at hm
  refine ⟨by decide, by decide, Sm.of_le (by omega) (by omega), Sm.of_le (by decide) (by decide), sk, ?_⟩
  refine ⟨by decide, by decide, ?_, ?_⟩
  · show Sm (M ^ 5 + 48271 * k)
    have b1 : (M ^ 5).natAbs < 2 ^ 640 := by
      rw [Int.natAbs_pow]
      have : M.natAbs < 2 ^ 128 := by omega
      exact Nat.lt_of_lt_of_le (Nat.pow_lt_pow_left this (by decide)) (by decide)
    refine Sm.of_nat (a := 641) ?_ (by decide)
    omega
  exact ⟨by decide, by decide, Sm.of_le (by decide) (by decide), q _⟩
theorem take_ok (n : Nat) (c r k z sz : Int) (s : Nat) (S : Store) (Q : DK) (X : XK) (hs : S[s]? = some (.lst [.int c, .int r, .int k, .int z])) (h0 : 0 ≤ k) (h1 : k < 1000000) (p0 : 0 < sz) (p1 : sz ≤ 10 ^ 60)
    (q : ∀ i r', 0 ≤ i → i < sz → Q (.int i) (S.set s (.lst [.int c, .int r', .int (k + 1), .int z]))) : callN PP (n + 2) f_law_take [.ref s, .int sz] S Q X := by
  refine ⟨rfl, ?_⟩
  have ssz : Sm sz := Sm.of_le (by omega) (by omega)
  conv => whnf
  rw [seq_of hs]
  conv => whnf
  rw [hs]
  conv => whnf
  have hs1 : (S.set s (.lst ([D.int c, .int r, .int k, .int z].set (Int.toNat 2) (.int (k + 1)))))[s]? = some (.lst [.int c, .int r, .int (k + 1), .int z]) := set_at hs
  rw [seq_of hs1]
  refine ⟨by decide, by decide, Sm.of_le (by decide) (by decide), ?_⟩
  have fin : ∀ i, Q (.int (i % sz)) (S.set s (.lst [.int c, .int r, .int (k + 1), .int z])) := fun i => q _ r (Int.emod_nonneg _ (by omega)) (Int.emod_lt_of_pos _ p0)
  have tail : wpCs (callN PP (n + 1)) (.cons (.ret (.bin .Mod (.call f_law_stir (.cons (.ix (.v 0) (.cst (.int 0))) (.cons (.ix (.v 0) (.cst (.int 2))) .nil))) (.v 1))) .nil) (rtEnds Q X) (startE b_law_take [.ref s, .int sz]) (S.set s (.lst ([D.int c, .int r, .int k, .int z].set (Int.toNat 2) (.int (k + 1))))) := by
    conv => whnf
    rw [seq_of hs1]
    conv => whnf
    rw [seq_of hs1]
    exact stir_ok n c (k + 1) _ _ _ (by omega) (by omega) fun i => ⟨p0, fin i⟩
  conv => whnf
  cases decide ((10 : Int) ^ (18 : Int).toNat ≤ c) with
  | false => exact tail
  | true =>
    conv => whnf
    rw [seq_of hs1]
    conv => whnf
    cases decide (0 < r) with
    | false => exact tail
    | true =>
      conv => whnf
      rw [seq_of hs1]
      refine ⟨p0, ?_⟩
      conv => whnf
      rw [seq_of hs1]
      refine ⟨p0, ssz, ?_⟩
      conv => whnf
      rw [hs1]
      conv => whnf
      rw [List.set_set]
      exact q _ (r / sz) (Int.emod_nonneg _ (by omega)) (Int.emod_lt_of_pos _ p0)

/-- where draws come from stands at s, so many were drawn -/
def Src (S : Store) (s : Nat) (k : Int) : Prop := ∃ c r z, S[s]? = some (.lst [.int c, .int r, .int k, .int z])
theorem take_src (n : Nat) (k sz : Int) (s : Nat) (S : Store) (Q : DK) (X : XK) (hs : Src S s k) (h0 : 0 ≤ k) (h1 : k < 1000000) (p0 : 0 < sz) (p1 : sz ≤ 10 ^ 60)
    (q : ∀ i S', 0 ≤ i → i < sz → S'.length = S.length → Fr s S S' → Src S' s (k + 1) → Q (.int i) S') : callN PP (n + 2) f_law_take [.ref s, .int sz] S Q X := by
  obtain ⟨c, r, z, hs⟩ := hs
  exact take_ok n c r k z sz s S Q X hs h0 h1 p0 p1 fun i r' a b => q i _ a b (List.length_set ..) (Fr.set _) ⟨c, r', z, set_at hs⟩
theorem nle {a b : Nat} (h : Nat.ble a b = true := by rfl) : a ≤ b := Nat.le_of_ble_eq_true h
theorem len_of {S : Store} {t : Nat} {l : List D} (h : lst? S t = some l) : len? S (.ref t) = some l.length := by
  unfold len?
  dsimp only
  rw [(lst_lt h).2]
/-- the last of a store -/
theorem last_lst {S : Store} {l : List D} : lst? (S ++ [.lst l]) S.length = some l := lst_of (by simp)
theorem Src.push {S : Store} {s : Nat} {k : Int} (h : Src S s k) (T : List Ob) : Src (S ++ T) s k := by
  obtain ⟨c, r, z, h⟩ := h
  exact ⟨c, r, z, by rw [List.getElem?_append_left (List.getElem?_eq_some_iff.mp h).1]; exact h⟩
theorem Src.lt {S : Store} {s : Nat} {k : Int} (h : Src S s k) : s < S.length := by
  obtain ⟨c, r, z, h⟩ := h
  exact (List.getElem?_eq_some_iff.mp h).1
end Mn

/-! Draws. -/
namespace Mn
open PySem
theorem one_of_ok (n : Nat) (k : Int) (s t : Nat) (l : List D) (S : Store) (Q : DK) (X : XK) (hs : Src S s k) (h0 : 0 ≤ k) (h1 : k < 1000000) (ht : lst? S t = some l) (hn : t ≠ s) (hl : 0 < l.length) (hl2 : l.length ≤ 1000)
    (q : ∀ d S', d ∈ l → S'.length = S.length → Fr s S S' → Src S' s (k + 1) → Q d S') : callN PP (n + 3) f_law_one_of [.ref s, .ref t] S Q X := by
  refine ⟨rfl, ?_⟩
  conv => whnf
  rw [len_of ht]
  refine ⟨by show l.length ≤ 1000000; omega, ?_⟩
  refine take_src n k _ s S _ _ hs h0 h1 (by omega) (by omega) fun i S' a b e f hs' => ?_
  conv => whnf
  rw [show seq? S' (.ref t) = some l from f.lst ht hn]
  conv => whnf
  have hi : i.toNat < l.length := by omega
  have e2 : L2.atI l i = some l[i.toNat] := by
    have := L2.atI_nat (xs := l) (j := i.toNat) (v := l[i.toNat]) (List.getElem?_eq_getElem hi)
    rwa [Int.toNat_of_nonneg a] at this
  rw [e2]
  exact q _ S' (List.getElem_mem hi) e f hs'
end Mn

/-! Equal data are the same. -/
namespace Mn
open PySem
/-- data without lists, texts that can be laid -/
def D.dat (d : D) : Bool := d.pur && d.py.canLay0
theorem dat_pur {d : D} (h : d.dat = true) : d.pur = true := (Bool.and_eq_true_iff.mp h).1
theorem dat_lay {d : D} (h : d.dat = true) : d.py.canLay0 = true := (Bool.and_eq_true_iff.mp h).2
theorem purs_lay {l : List D} (h : (D.tup l).dat = true) : PyData.canLayAll0 (pys l) = true := dat_lay h
mutual
theorem pur_snap (S : Store) : ∀ {d : D}, d.pur = true → Snap S d d.py
  | .int i, _ => .int i
  | .tup l, h => .tup (purs_snap S h)
  | .non, _ => .non
  | .bl b, _ => .bl b
  | .str x, _ => .str x
  | .fl _, h => by cases h
  | .ref _, h => by cases h
theorem purs_snap (S : Store) : ∀ {l : List D}, purs l = true → Snaps S l (pys l)
  | [], _ => .nil
  | d :: r, h => by
    obtain ⟨h1, h2⟩ := Bool.and_eq_true_iff.mp (show (d.pur && purs r) = true from h)
    exact .cons (pur_snap S h1) (purs_snap S h2)
end
mutual
theorem pur_dep : ∀ {d : D}, d.pur = true → d.py.depth = d.dep
  | .int _, _ => rfl
  | .tup l, h => by
    show PyData.depthAll (pys l) + 1 = deps l + 1
    rw [purs_dep h]
  | .non, _ => rfl
  | .bl _, _ => rfl
  | .str _, _ => rfl
  | .fl _, h => by cases h
  | .ref _, h => by cases h
theorem purs_dep : ∀ {l : List D}, purs l = true → PyData.depthAll (pys l) = deps l
  | [], _ => rfl
  | d :: r, h => by
    obtain ⟨h1, h2⟩ := Bool.and_eq_true_iff.mp (show (d.pur && purs r) = true from h)
    show max d.py.depth (PyData.depthAll (pys r)) = max d.dep (deps r)
    rw [pur_dep h1, purs_dep h2]
end
mutual
theorem eqv_pur : ∀ {d : D}, d.pur = true → PyData.eqv d.py d.py = true
  | .int i, _ => by simp [D.py, PyData.eqv]
  | .tup l, h => eqvs_pur h
  | .non, _ => rfl
  | .bl b, _ => by simp [D.py, PyData.eqv]
  | .str x, _ => by simp [D.py, PyData.eqv]
  | .fl _, h => by cases h
  | .ref _, h => by cases h
theorem eqvs_pur : ∀ {l : List D}, purs l = true → PyData.eqvAll (pys l) (pys l) = true
  | [], _ => rfl
  | d :: r, h => by
    obtain ⟨h1, h2⟩ := Bool.and_eq_true_iff.mp (show (d.pur && purs r) = true from h)
    show (PyData.eqv d.py d.py && PyData.eqvAll (pys r) (pys r)) = true
    rw [eqv_pur h1, eqvs_pur h2]
    rfl
end
theorem cEq_pur {S : Store} {d : D} {K : Bool → Prop} (h : d.dat = true) (hd : d.dep ≤ 150) (k : K true) : cmpB .Eq d d S K := by
  show cEq d d S K
  unfold cEq
  split
  · rename_i hs
    have e : d.sEq d = true := by
      cases d <;> first | (simp [D.sEq]; done) | (simp [D.scal] at hs)
    rw [e]
    exact k
  · refine ⟨d.py, d.py, pur_snap S (dat_pur h), pur_snap S (dat_pur h), dat_lay h, dat_lay h, ?_, ?_⟩
    · rw [pur_dep (dat_pur h)]
      omega
    · rw [eqv_pur (dat_pur h)]
      exact k
theorem cNe_pur {S : Store} {d : D} {K : Bool → Prop} (h : d.dat = true) (hd : d.dep ≤ 150) (k : K false) : cmpB .NotEq d d S K := by
  show cEq d d S fun b => K (!b)
  exact cEq_pur (S := S) (K := fun b => K (!b)) h hd k
/-- is it an empty tuple? -/
theorem eqnil_pur {S : Store} {l : List D} {K : Bool → Prop} (h : (D.tup l).dat = true) (k : K l.isEmpty) : cmpB .Eq (.tup l) (.tup []) S K := eq_nil (purs_snap S (dat_pur h)) (purs_lay h) k
theorem nenil_pur {S : Store} {l : List D} {K : Bool → Prop} (h : (D.tup l).dat = true) (k : K (!l.isEmpty)) : cmpB .NotEq (.tup l) (.tup []) S K := eq_nil (K := fun b => K (!b)) (purs_snap S (dat_pur h)) (purs_lay h) k
/-- tuples are not too long -/
def D.wid : D → Prop
  | .tup l => l.length ≤ 100000 ∧ ∀ d ∈ l, d.wid
  | _ => True
mutual
theorem num_pur : ∀ {d : D}, d.num = true → d.pur = true
  | .int i, _ => rfl
  | .tup l, h => nums_pur h
  | .non, h => by cases h
  | .bl _, h => by cases h
  | .str _, h => by cases h
  | .fl _, h => by cases h
  | .ref _, h => by cases h
theorem nums_pur : ∀ {l : List D}, nums l = true → purs l = true
  | [], _ => rfl
  | d :: r, h => by
    obtain ⟨h1, h2⟩ := Bool.and_eq_true_iff.mp (show (d.num && nums r) = true from h)
    show (d.pur && purs r) = true
    rw [num_pur h1, nums_pur h2]
    rfl
end
theorem num_dat {d : D} (h : d.num = true) : d.dat = true := by
  unfold D.dat
  rw [num_pur h, num_lay h]
  rfl
theorem dat_mem {l : List D} (h : (D.tup l).dat = true) : ∀ d ∈ l, d.dat = true := by
  have h1 : purs l = true := dat_pur h
  have h2 : PyData.canLayAll0 (pys l) = true := dat_lay h
  clear h
  induction l with
  | nil => exact fun d hd => nomatch hd
  | cons d r ih =>
    obtain ⟨p1, p2⟩ := Bool.and_eq_true_iff.mp (show (d.pur && purs r) = true from h1)
    obtain ⟨q1, q2⟩ := Bool.and_eq_true_iff.mp (show (PyData.canLay0 d.py && PyData.canLayAll0 (pys r)) = true from h2)
    intro x hx
    rcases List.mem_cons.mp hx with rfl | hx
    · unfold D.dat
      rw [p1, q1]
      rfl
    · exact ih p2 q2 x hx
def sortS : D → Str
  | .bl _ => "truth"
  | .int _ => "number"
  | .tup _ => "tuple"
  | .fl _ => "list"
  | .ref _ => "list"
  | _ => "other"
theorem sort_ok (n : Nat) (d : D) (S : Store) (Q : DK) (X : XK) (h : d.pur = true) (q : Q (.str (sortS d)) S) : callN PP (n + 1) f_law_sort [d] S Q X := by
  refine enter rfl rfl ?_
  cases d with
  | ref _ => cases h
  | fl _ => cases h
  | _ => exact q
theorem pursF_mem {l : List D} (h : purs l = true) : ∀ d ∈ l, d.pur = true := by
  induction l with
  | nil => exact fun d hd => nomatch hd
  | cons d r ih =>
    obtain ⟨h1, h2⟩ := Bool.and_eq_true_iff.mp (show (d.pur && purs r) = true from h)
    intro x hx
    rcases List.mem_cons.mp hx with rfl | hx
    · exact h1
    · exact ih h2 x hx
theorem deps_mem {l : List D} : ∀ d ∈ l, d.dep ≤ deps l := by
  induction l with
  | nil => exact fun d hd => nomatch hd
  | cons d r ih =>
    intro x hx
    show x.dep ≤ max d.dep (deps r)
    rcases List.mem_cons.mp hx with rfl | hx
    · omega
    · have := ih x hx
      omega
theorem enumFrom_get (l : List D) : ∀ (k i : Nat), (enumFrom k l)[i]? = (l[i]?).map fun d => .tup [.int ((k + i : Nat) : Int), d] := by
  induction l with
  | nil => exact fun k i => rfl
  | cons a l ih =>
    intro k i
    cases i with
    | zero => rfl
    | succ i =>
      show (enumFrom (k + 1) l)[i]? = (l[i]?).map _
      rw [ih, show k + 1 + i = k + (i + 1) by omega]
theorem enumFrom_len (l : List D) : ∀ k : Nat, (enumFrom k l).length = l.length := by
  induction l with
  | nil => exact fun _ => rfl
  | cons a l ih => exact fun k => congrArg (· + 1) (ih (k + 1))
theorem enumF_get {l : List D} {i : Nat} {d : D} (h : (enumL l)[i]? = some d) : ∃ x, l[i]? = some x ∧ d = .tup [.int (i : Int), x] := by
  unfold enumL at h
  rw [enumFrom_get] at h
  cases hx : l[i]? with
  | none => rw [hx] at h; cases h
  | some x =>
    rw [hx] at h
    cases h
    exact ⟨x, rfl, by simp⟩
theorem same_ok : ∀ (k : Nat) (d : D), d.dep ≤ k → d.dat = true → d.wid → ∀ (n : Nat) (S : Store) (Q : DK) (X : XK), (∀ S', Ext S S' → Q (.bl true) S') → callN PP (n + k + 2) f_law_same [d, d] S Q X := by
  intro k
  induction k with
  | zero =>
    intro d hd hp hw n S Q X q
    refine enter rfl rfl ?_
    show wpCs _ k_law_same_0 _ [some d, some d, none, none] S
    bv_omega
    refine sort_ok (n + 0) d S _ _ (dat_pur hp) (sort_ok (n + 0) d S _ _ (dat_pur hp) ?_)
    rw [r_nes, show (!(sortS d == sortS d)) = false by simp]
    cases d with
    | tup l =>
      have : deps l + 1 ≤ 0 := hd
      omega
    | ref _ => cases (dat_pur hp)
    | fl _ => cases (dat_pur hp)
    | _ => exact cEq_pur (S := S) (K := fun b => Q (.bl b) S) hp (by show 0 ≤ 150; omega) (q S (Ext.refl S))
  | succ k ih =>
    intro d hd hp hw n S Q X q
    refine enter rfl rfl ?_
    show wpCs _ k_law_same_0 _ [some d, some d, none, none] S
    bv_omega
    refine sort_ok (n + k + 1) d S _ _ (dat_pur hp) (sort_ok (n + k + 1) d S _ _ (dat_pur hp) ?_)
    rw [r_nes, show (!(sortS d == sortS d)) = false by simp]
    cases d with
    | tup l =>
      have hd : deps l + 1 ≤ k + 1 := hd
      obtain ⟨hl, hw⟩ := (show l.length ≤ 100000 ∧ ∀ d ∈ l, d.wid from by simpa [D.wid] using hw)
      show wpCs _ k_law_same_1 _ _ _
      bv_omega
      bv_omega
      refine ⟨by show _ ≤ 1000000; omega, by show _ ≤ 1000000; omega, ?_⟩
      rw [show (!((l.length : Int) == (l.length : Int))) = false by simp]
      show wpCs _ k_law_same_3 _ _ _
      bv_omega
      refine lcB_at (n := S.length) _ (fun i acc S' => acc = [] ∧ Ext (S ++ [.lst []]) S') (fun _ _ _ _ => trivial) ?_ ?_ ⟨rfl, Ext.refl _⟩
      · rintro acc S' ⟨rfl, hx⟩
        refine lnil_eq (lst_of (get_push (hx.get (last_get S _)) _)) (last_lst2 S' []) rfl .nil rfl ?_
        exact q _ ((Ext.push _ _).trans (hx.trans (Ext.push _ _)))
      · rintro i e he acc S' ⟨rfl, hx⟩
        obtain ⟨x, hx1, rfl⟩ := enumF_get he
        refine ⟨_, rfl, ?_⟩
        have hm : x ∈ l := List.mem_of_getElem? hx1
        ac_rfl
        refine ixt_go rfl hx1 ?_
        rw [show n + (k + 1) + 1 = n + k + 2 by omega]
        refine ih x (by have := deps_mem x hm; omega) (dat_mem hp x hm) (hw x hm) n S' _ _ fun S2 x2 => ?_
        exact hx.trans x2
    | ref _ => cases (dat_pur hp)
    | fl _ => cases (dat_pur hp)
    | _ => exact cEq_pur (S := S) (K := fun b => Q (.bl b) S) hp (by show 0 ≤ 150; omega) (q S (Ext.refl S))
end Mn

/-! Two lists that are alike. -/
namespace Mn
open PySem
theorem sort_lst (n a : Nat) (L : List D) (S : Store) (Q : DK) (X : XK) (h : S[a]? = some (.lst L)) (q : Q (.str "list") S) : callN PP (n + 1) f_law_sort [.ref a] S Q X := by
  have e : isL S (.ref a) = some true := by
    show (lst? S a).map _ = _
    rw [lst_of h]
    rfl
  refine enter rfl rfl ?_
  show wpCs _ k_law_sort_0 _ [some (.ref a)] S
  refine cs_cons ?_
  show (match (isL S (.ref a)).map fun _ => false with | some k => _ | none => False)
  rw [e]
  ac_rfl
  show wpCs _ k_law_sort_1 _ _ _
  refine cs_cons ?_
  show (match (isL S (.ref a)).map fun _ => false with | some k => _ | none => False)
  rw [e]
  ac_rfl
  show wpCs _ k_law_sort_2 _ _ _
  refine cs_cons ?_
  show (match (isL S (.ref a)).map fun _ => false with | some k => _ | none => False)
  rw [e]
  ac_rfl
  show wpCs _ k_law_sort_3 _ _ _
  refine cs_cons ?_
  show (match isL S (.ref a) with | some k => _ | none => False)
  rw [e]
  exact q
theorem same_lst (k n a b : Nat) (L : List D) (S : Store) (Q : DK) (X : XK) (ha : S[a]? = some (.lst L)) (hb : S[b]? = some (.lst L)) (hd : deps L ≤ k) (hp : (D.tup L).dat = true) (hw : (D.tup L).wid)
    (q : ∀ S', Ext S S' → Q (.bl true) S') : callN PP (n + k + 3) f_law_same [.ref a, .ref b] S Q X := by
  obtain ⟨hl, hw⟩ := (show L.length ≤ 100000 ∧ ∀ d ∈ L, d.wid from by simpa [D.wid] using hw)
  refine enter rfl rfl ?_
  show wpCs _ k_law_same_0 _ [some (.ref a), some (.ref b), none, none] S
  bv_omega
  refine sort_lst (n + k + 1) a L S _ _ ha (sort_lst (n + k + 1) b L S _ _ hb ?_)
  rw [r_nes, show (!(("list" : Str) == "list")) = false by simp]
  show wpCs _ k_law_same_1 _ _ _
  refine cs_cons ?_
  show (match isL S (.ref a) with | some k => _ | none => False)
  rw [show isL S (.ref a) = some true by show (lst? S a).map _ = _; rw [lst_of ha]; rfl]
  ac_rfl
  show wpCs _ k_law_same_2 _ _ _
  bv_omega
  refine len_go ha (by omega) (len_go hb (by omega) ?_)
  rw [r_nei, show (!((L.length : Int) == (L.length : Int))) = false by simp]
  show wpCs _ k_law_same_3 _ _ _
  bv_omega
  refine it_lst ha ?_
  refine lcB_at (n := S.length) _ (fun i acc S' => acc = [] ∧ Ext (S ++ [.lst []]) S') (fun _ _ S' h => lst_of (h.2.get (get_push ha _))) ?_ ?_ ⟨rfl, Ext.refl _⟩
  · rintro acc S' ⟨rfl, hx⟩
    refine lnil_eq (lst_of (get_push (hx.get (last_get S _)) _)) (last_lst2 S' []) rfl .nil rfl ?_
    exact q _ ((Ext.push _ _).trans (hx.trans (Ext.push _ _)))
  · rintro i e he acc S' ⟨rfl, hx⟩
    obtain ⟨x, hx1, rfl⟩ := enumF_get he
    refine ⟨_, rfl, ?_⟩
    have hm : x ∈ L := List.mem_of_getElem? hx1
    ac_rfl
    refine ixn_go (hx.get (get_push hb _)) rfl hx1 ?_
    refine same_ok k x (by have := deps_mem x hm; omega) (dat_mem hp x hm) (hw x hm) n S' _ _ fun S2 x2 => ?_
    exact hx.trans x2
end Mn

namespace Mn
open PySem
theorem addf_go {S : Store} {a : Nat} {l m : List D} {Q : DK} (h1 : S[a]? = some (.lst l)) (hl : l.length + m.length ≤ 1000000) (q : Q (.ref S.length) (S ++ [.lst (l ++ m)])) : bop .Add (.ref a) (.fl m) S Q := by
  show (match lq? S (.ref a), lq? S (.fl m) with | some l, some m => l.length + m.length ≤ lim ∧ Q (.ref S.length) (S ++ [.lst (l ++ m)]) | _, _ => False)
  rw [lq_of h1]
  exact ⟨hl, q⟩
theorem Fr.get {s n : Nat} {S S' : Store} {o : Ob} (f : Fr s S S') (h : S[n]? = some o) (hn : n ≠ s) : S'[n]? = some o := by
  rw [f.2 n (get_lt h) hn]
  exact h
end Mn

/-! Tables of trees in the store. -/
namespace Mn
open PySem
theorem dGet_put (kvs : List (Key × D)) (k : Key) (v : D) (k' : Key) : dGet (dPut kvs k v) k' = if k' = k then some v else dGet kvs k' := by
  unfold dPut
  by_cases h : (kvs.any fun kv => decide (kv.1 = k)) = true
  · rw [if_pos h]
    unfold dGet
    by_cases e : k' = k
    · subst e
      rw [if_pos rfl]
      induction kvs with
      | nil => cases h
      | cons p kvs ih =>
        rw [List.map_cons, List.find?_cons]
        by_cases e : p.1 = k'
        · simp [e]
        · rw [if_neg e]
          have : decide (p.1 = k') = false := by simp [e]
          rw [this]
          exact ih (by simpa [e] using h)
    · rw [if_neg e]
      clear h
      induction kvs with
      | nil => rfl
      | cons p kvs ih =>
        rw [List.map_cons, List.find?_cons, List.find?_cons]
        by_cases e2 : p.1 = k
        · rw [if_pos e2]
          have h1 : decide (p.1 = k') = false := by simp [e2, Ne.symm e]
          rw [h1]
          exact ih
        · rw [if_neg e2]
          by_cases e3 : p.1 = k'
          · simp [e3]
          · have h1 : decide (p.1 = k') = false := by simp [e3]
            rw [h1]
            exact ih
  · rw [if_neg h]
    unfold dGet
    rw [List.find?_append]
    by_cases e : k' = k
    · subst e
      rw [if_pos rfl]
      have : kvs.find? (fun kv => decide (kv.1 = k')) = none := by
        rw [List.find?_eq_none]
        intro p hp z
        exact h (List.any_eq_true.mpr ⟨p, hp, z⟩)
      rw [this]
      simp
    · rw [if_neg e]
      have h1 : decide (k = k') = false := by simp [Ne.symm e]
      cases hf : kvs.find? (fun kv => decide (kv.1 = k')) with
      | none => simp [h1]
      | some p => rfl
theorem dPut_same {kvs : List (Key × D)} {k : Key} {v : D} (h : (dGet kvs k).isSome = true) : (dPut kvs k v).length = kvs.length := by
  unfold dPut
  have : (kvs.any fun kv => decide (kv.1 = k)) = true := by
    unfold dGet at h
    cases hf : kvs.find? (fun kv => decide (kv.1 = k)) with
    | none => rw [hf] at h; cases h
    | some p => exact List.any_eq_true.mpr ⟨p, List.mem_of_find?_eq_some hf, by simpa using List.find?_some hf⟩
  rw [if_pos this, List.length_map]
def oI : Option Int → D
  | none => .non
  | some i => .int i
def fset {α : Type} (f : Int → Option α) (i : Int) (v : α) : Int → Option α := fun j => if j = i then some v else f j
theorem fset_same {α : Type} (f : Int → Option α) (i : Int) (v : α) : fset f i v i = some v := by simp [fset]
theorem fset_ne {α : Type} (f : Int → Option α) {i j : Int} (v : α) (h : j ≠ i) : fset f i v j = f j := by simp [fset, h]
/-- the kinds of heaps -/
inductive Kd where
  | left | skew | pair | count | cut
  deriving DecidableEq
def Kd.s : Kd → Str
  | .left => "left"
  | .skew => "skew"
  | .pair => "pair"
  | .count => "count"
  | .cut => "cut"
theorem kd_beq (a b : Kd) : (a.s == b.s) = decide (a = b) := by cases a <;> cases b <;> rfl
theorem kd_eq {a b : Kd} {S : Store} {K : Bool → Prop} (k : K (decide (a = b))) : cmpB .Eq (.str a.s) (.str b.s) S K := by
  show K (a.s == b.s)
  rw [kd_beq]
  exact k
theorem kd_in {k a b : Kd} {S : Store} {K : Bool → Prop} (q : K (decide (k = a) || decide (k = b))) : cmpB .In (.str k.s) (.tup [.str a.s, .str b.s]) S K := by
  refine ⟨rfl, rfl, ?_⟩
  have e : ([D.str a.s, .str b.s].any fun z => z.sEq (.str k.s)) = (decide (k = a) || decide (k = b)) := by
    show ((a.s == k.s) || ((b.s == k.s) || false)) = _
    rw [kd_beq, kd_beq, Bool.or_false]
    cases k <;> cases a <;> cases b <;> rfl
  rw [e]
  exact q
/-- a table, plainly -/
structure TM where
  kind : Kd
  key : Int → Option Int
  kids : Int → Option (List (Option Int))
  up : Int → Option (Option Int)
  mark : Int → Option Bool
  rank : Int → Option Int
  roots : List Int
/-- where it lies -/
structure TW where
  a1 : Nat
  a2 : Nat
  a3 : Nat
  a4 : Nat
  a5 : Nat
  a6 : Nat
  k1 : List (Key × D)
  k2 : List (Key × D)
  k3 : List (Key × D)
  k4 : List (Key × D)
  k5 : List (Key × D)
def tbF (M : TM) (w : TW) : List (Str × D) := [("heap_kind", .str M.kind.s), ("key_at", .ref w.a1), ("kids", .ref w.a2), ("ups", .ref w.a3), ("marks", .ref w.a4), ("ranks", .ref w.a5), ("roots", .ref w.a6)]
def RepF {α : Type} (kvs : List (Key × D)) (f : Int → Option α) (g : α → D) : Prop := ∀ i, dGet kvs (.inl i) = (f i).map g
theorem RepF.put {α : Type} {kvs : List (Key × D)} {f : Int → Option α} {g : α → D} (h : RepF kvs f g) (i : Int) (v : α) : RepF (dPut kvs (.inl i) (g v)) (fset f i v) g := fun j => by
  rw [dGet_put]
  by_cases e : j = i
  · subst e
    rw [if_pos rfl, fset_same]
    rfl
  · rw [if_neg (by simpa using e), fset_ne _ _ e]
    exact h j
theorem RepF.some {α : Type} {kvs : List (Key × D)} {f : Int → Option α} {g : α → D} (h : RepF kvs f g) {i : Int} {v : α} (e : f i = some v) : dGet kvs (.inl i) = some (g v) := by rw [h, e]; rfl
/-- a dict whose keys are whole numbers, each once -/
def KI (kvs : List (Key × D)) : Prop := ∃ l : List Int, kvs.map (·.1) = l.map Sum.inl ∧ l.Nodup
theorem KI.nil : KI [] := ⟨[], rfl, List.nodup_nil⟩
theorem KI.put {kvs : List (Key × D)} (h : KI kvs) (i : Int) (v : D) : KI (dPut kvs (.inl i) v) := by
  obtain ⟨l, e, hn⟩ := h
  unfold dPut
  split
  · refine ⟨l, ?_, hn⟩
    rw [← e, List.map_map]
    refine List.map_congr_left fun p _ => ?_
    show (if p.1 = .inl i then (p.1, v) else p).1 = p.1
    split <;> rfl
  · rename_i hany
    refine ⟨l ++ [i], by rw [List.map_append, List.map_append, e]; rfl, List.nodup_append.mpr ⟨hn, by simp, fun a ha b hb => ?_⟩⟩
    rw [List.mem_singleton.mp hb]
    intro z
    refine hany (List.any_eq_true.mpr ?_)
    have : (Sum.inl a : Key) ∈ kvs.map (·.1) := by rw [e]; exact List.mem_map.mpr ⟨a, ha, rfl⟩
    obtain ⟨q, hq, eq⟩ := List.mem_map.mp this
    exact ⟨q, hq, by rw [eq, z]; simp⟩
structure TabW (S : Store) (t : Nat) (B : Nat → Prop) (N : Nat) (M : TM) (w : TW) : Prop where
  ins : S[t]? = some (.ins 0 (tbF M w))
  d1 : S[w.a1]? = some (.dct w.k1)
  d2 : S[w.a2]? = some (.dct w.k2)
  d3 : S[w.a3]? = some (.dct w.k3)
  d4 : S[w.a4]? = some (.dct w.k4)
  d5 : S[w.a5]? = some (.dct w.k5)
  r6 : S[w.a6]? = some (.lst (M.roots.map D.int))
  g1 : RepF w.k1 M.key D.int
  g3 : RepF w.k3 M.up oI
  g4 : RepF w.k4 M.mark D.bl
  g5 : RepF w.k5 M.rank D.int
  g2 : ∀ i, (M.kids i = none ∧ dGet w.k2 (.inl i) = none) ∨ ∃ l b, M.kids i = some l ∧ dGet w.k2 (.inl i) = some (.ref b) ∧ S[b]? = some (.lst (l.map oI)) ∧ b ≠ w.a6 ∧ B b
  inj : ∀ i j b, dGet w.k2 (.inl i) = some (.ref b) → dGet w.k2 (.inl j) = some (.ref b) → i = j
  nd : [w.a1, w.a2, w.a3, w.a4, w.a5].Nodup
  own : B t ∧ B w.a1 ∧ B w.a2 ∧ B w.a3 ∧ B w.a4 ∧ B w.a5 ∧ B w.a6
  bnd : ∀ j, B j → j < S.length
  len : w.k1.length ≤ N ∧ w.k2.length ≤ N ∧ w.k3.length ≤ N ∧ w.k4.length ≤ N ∧ w.k5.length ≤ N ∧ M.roots.length ≤ N
  cap : N ≤ 10000
  ki : KI w.k1 ∧ KI w.k2 ∧ KI w.k4
def Tab (S : Store) (t : Nat) (B : Nat → Prop) (N : Nat) (M : TM) : Prop := ∃ w, TabW S t B N M w
/-- what stays and what is new -/
structure Step (B B' : Nat → Prop) (S S' : Store) : Prop where
  own : ∀ j, B' j → B j ∨ S.length ≤ j
  len : S.length ≤ S'.length
  frm : ∀ j, j < S.length → ¬ B j → S'[j]? = S[j]?
theorem Step.refl (B : Nat → Prop) (S : Store) : Step B B S S := ⟨fun _ h => .inl h, Nat.le_refl _, fun _ _ _ => rfl⟩
theorem Step.trans {B B1 B2 : Nat → Prop} {S S1 S2 : Store} (a : Step B B1 S S1) (b : Step B1 B2 S1 S2) : Step B B2 S S2 :=
  ⟨fun j h => by
    rcases b.own j h with h | h
    · exact a.own j h
    · exact .inr (Nat.le_trans a.len h), Nat.le_trans a.len b.len, fun j hj hb => by
    have h1 : ¬ B1 j := fun z => by
      rcases a.own j z with h | h
      · exact hb h
      · omega
    rw [b.frm j (Nat.lt_of_lt_of_le hj a.len) h1, a.frm j hj hb]⟩
theorem Step.get {B B' : Nat → Prop} {S S' : Store} {n : Nat} {o : Ob} (a : Step B B' S S') (h : S[n]? = some o) (hb : ¬ B n) : S'[n]? = some o ∧ ¬ B' n := by
  have hl := get_lt h
  refine ⟨by rw [a.frm n hl hb]; exact h, fun z => ?_⟩
  rcases a.own n z with q | q
  · exact hb q
  · omega
theorem Step.set {B : Nat → Prop} {S : Store} {n : Nat} (o : Ob) (h : B n) : Step B B S (S.set n o) :=
  ⟨fun _ z => .inl z, by rw [List.length_set]; exact Nat.le_refl _, fun j _ hb => by rw [List.getElem?_set_ne (fun z => by subst z; exact hb h)]⟩
theorem Step.push {B : Nat → Prop} {S : Store} (T : List Ob) : Step B B S (S ++ T) :=
  ⟨fun _ z => .inl z, by rw [List.length_append]; omega, fun j hj _ => by rw [List.getElem?_append_left hj]⟩
/-- outside the table all may change -/
theorem TabW.keep {S S' : Store} {t N : Nat} {B : Nat → Prop} {M : TM} {w : TW} (T : TabW S t B N M w) (h : ∀ j o, B j → S[j]? = some o → S'[j]? = some o) : TabW S' t B N M w where
  ins := h _ _ T.own.1 T.ins
  d1 := h _ _ T.own.2.1 T.d1
  d2 := h _ _ T.own.2.2.1 T.d2
  d3 := h _ _ T.own.2.2.2.1 T.d3
  d4 := h _ _ T.own.2.2.2.2.1 T.d4
  d5 := h _ _ T.own.2.2.2.2.2.1 T.d5
  r6 := h _ _ T.own.2.2.2.2.2.2 T.r6
  g1 := T.g1
  g3 := T.g3
  g4 := T.g4
  g5 := T.g5
  g2 := fun i => by
    rcases T.g2 i with q | ⟨l, b, q1, q2, q3, q4, q5⟩
    · exact .inl q
    · exact .inr ⟨l, b, q1, q2, h _ _ q5 q3, q4, q5⟩
  inj := T.inj
  nd := T.nd
  own := T.own
  bnd := fun j hj => by
    obtain ⟨o, ho⟩ : ∃ o, S[j]? = some o := ⟨_, List.getElem?_eq_getElem (T.bnd j hj)⟩
    exact get_lt (h j o hj ho)
  len := T.len
  cap := T.cap
  ki := T.ki
theorem Tab.push {S : Store} {t N : Nat} {B : Nat → Prop} {M : TM} (T : Tab S t B N M) (U : List Ob) : Tab (S ++ U) t B N M := by
  obtain ⟨w, T⟩ := T
  exact ⟨w, T.keep fun j o _ h => get_push h U⟩
theorem Tab.setO {S : Store} {t N n : Nat} {B : Nat → Prop} {M : TM} (T : Tab S t B N M) (o : Ob) (h : ¬ B n) : Tab (S.set n o) t B N M := by
  obtain ⟨w, T⟩ := T
  exact ⟨w, T.keep fun j o bj hj => get_set_ne hj (fun z => by subst z; exact h bj)⟩
end Mn

/-! A table's parts are written. -/
namespace Mn
open PySem
theorem ne_obj {S : Store} {n m : Nat} {o o' : Ob} (h1 : S[n]? = some o) (h2 : S[m]? = some o') (h : o ≠ o') : n ≠ m := fun z => by
  subst z
  rw [h1] at h2
  exact h (Option.some.inj h2)
theorem attr_go {S : Store} {n c : Nat} {fs : List (Str × D)} {f : Str} {d : D} {Q : DK} (h : S[n]? = some (.ins c fs)) (e : fs.lookup f = some d) (q : Q d S) : attrD c f (.ref n) S Q := by
  unfold attrD inst?
  dsimp only
  rw [h]
  dsimp only
  rw [e]
  exact ⟨rfl, q⟩
theorem meth_go {S : Store} {n c : Nat} {fs : List (Str × D)} {m : Str} {q : Prop} (h : S[n]? = some (.ins c fs)) (e : fs.lookup m = none) (hq : q) : methD c m (.ref n) S q := by
  unfold methD inst?
  dsimp only
  rw [h]
  exact ⟨rfl, e, hq⟩
theorem setA_go {S : Store} {n c : Nat} {fs : List (Str × D)} {f : Str} {v : D} {Q : Store → Prop} (h : S[n]? = some (.ins c fs)) (hl : fs.length < 900) (q : Q (S.set n (.ins c (putF f v fs)))) : setAt c f (.ref n) v S Q := by
  unfold setAt
  dsimp only
  rw [h]
  exact ⟨rfl, hl, q⟩
theorem tb_kind (M : TM) (w : TW) : (tbF M w).lookup ("heap_kind" : Str) = some (.str M.kind.s) := rfl
theorem tb_key (M : TM) (w : TW) : (tbF M w).lookup ("key_at" : Str) = some (.ref w.a1) := rfl
theorem tb_kids (M : TM) (w : TW) : (tbF M w).lookup ("kids" : Str) = some (.ref w.a2) := rfl
theorem tb_ups (M : TM) (w : TW) : (tbF M w).lookup ("ups" : Str) = some (.ref w.a3) := rfl
theorem tb_marks (M : TM) (w : TW) : (tbF M w).lookup ("marks" : Str) = some (.ref w.a4) := rfl
theorem tb_ranks (M : TM) (w : TW) : (tbF M w).lookup ("ranks" : Str) = some (.ref w.a5) := rfl
theorem tb_roots (M : TM) (w : TW) : (tbF M w).lookup ("roots" : Str) = some (.ref w.a6) := rfl
theorem TabW.nes {S : Store} {t N : Nat} {B : Nat → Prop} {M : TM} {w : TW} (T : TabW S t B N M w) : w.a1 ≠ w.a2 ∧ w.a1 ≠ w.a3 ∧ w.a1 ≠ w.a4 ∧ w.a1 ≠ w.a5 ∧ w.a2 ≠ w.a3 ∧ w.a2 ≠ w.a4 ∧ w.a2 ≠ w.a5 ∧ w.a3 ≠ w.a4 ∧ w.a3 ≠ w.a5 ∧ w.a4 ≠ w.a5 := by
  have := T.nd
  simp at this
  omega
theorem TabW.set1 {S : Store} {t N N' : Nat} {B : Nat → Prop} {M : TM} {w : TW} (T : TabW S t B N M w) (i : Int) (v : Int) (hN : N ≤ N') (hl : (dPut w.k1 (.inl i) (D.int v)).length ≤ N') (hc : N' ≤ 10000) :
    TabW (S.set w.a1 (.dct (dPut w.k1 (.inl i) (D.int v)))) t B N' { M with key := fset M.key i v } { w with k1 := dPut w.k1 (.inl i) (D.int v) } := by
  obtain ⟨n12, n13, n14, n15, n23, n24, n25, n34, n35, n45⟩ := T.nes
  have nt : w.a1 ≠ t := ne_obj T.d1 T.ins (by simp)
  have n6 : w.a1 ≠ w.a6 := ne_obj T.d1 T.r6 (by simp)
  obtain ⟨l1, l2, l3, l4, l5, l6⟩ := T.len
  refine ⟨get_set_ne T.ins nt, get_set T.d1, get_set_ne T.d2 (n12), get_set_ne T.d3 (n13), get_set_ne T.d4 (n14), get_set_ne T.d5 (n15), get_set_ne T.r6 n6, T.g1.put i v, T.g3, T.g4, T.g5, fun k => ?_, T.inj, T.nd, T.own, fun k hk => by rw [List.length_set]; exact T.bnd k hk, ⟨hl, Nat.le_trans l2 hN, Nat.le_trans l3 hN, Nat.le_trans l4 hN, Nat.le_trans l5 hN, Nat.le_trans l6 hN⟩, hc, ⟨T.ki.1.put i _, T.ki.2⟩⟩
  rcases T.g2 k with q | ⟨l, b, q1, q2, q3, q4, q5⟩
  · exact .inl q
  · exact .inr ⟨l, b, q1, q2, get_set_ne q3 (ne_obj T.d1 q3 (by simp)), q4, q5⟩
theorem TabW.set3 {S : Store} {t N N' : Nat} {B : Nat → Prop} {M : TM} {w : TW} (T : TabW S t B N M w) (i : Int) (v : Option Int) (hN : N ≤ N') (hl : (dPut w.k3 (.inl i) (oI v)).length ≤ N') (hc : N' ≤ 10000) :
    TabW (S.set w.a3 (.dct (dPut w.k3 (.inl i) (oI v)))) t B N' { M with up := fset M.up i v } { w with k3 := dPut w.k3 (.inl i) (oI v) } := by
  obtain ⟨n12, n13, n14, n15, n23, n24, n25, n34, n35, n45⟩ := T.nes
  have nt : w.a3 ≠ t := ne_obj T.d3 T.ins (by simp)
  have n6 : w.a3 ≠ w.a6 := ne_obj T.d3 T.r6 (by simp)
  obtain ⟨l1, l2, l3, l4, l5, l6⟩ := T.len
  refine ⟨get_set_ne T.ins nt, get_set_ne T.d1 (n13.symm), get_set_ne T.d2 (n23.symm), get_set T.d3, get_set_ne T.d4 (n34), get_set_ne T.d5 (n35), get_set_ne T.r6 n6, T.g1, T.g3.put i v, T.g4, T.g5, fun k => ?_, T.inj, T.nd, T.own, fun k hk => by rw [List.length_set]; exact T.bnd k hk, ⟨Nat.le_trans l1 hN, Nat.le_trans l2 hN, hl, Nat.le_trans l4 hN, Nat.le_trans l5 hN, Nat.le_trans l6 hN⟩, hc, T.ki⟩
  rcases T.g2 k with q | ⟨l, b, q1, q2, q3, q4, q5⟩
  · exact .inl q
  · exact .inr ⟨l, b, q1, q2, get_set_ne q3 (ne_obj T.d3 q3 (by simp)), q4, q5⟩
theorem TabW.set4 {S : Store} {t N N' : Nat} {B : Nat → Prop} {M : TM} {w : TW} (T : TabW S t B N M w) (i : Int) (v : Bool) (hN : N ≤ N') (hl : (dPut w.k4 (.inl i) (D.bl v)).length ≤ N') (hc : N' ≤ 10000) :
    TabW (S.set w.a4 (.dct (dPut w.k4 (.inl i) (D.bl v)))) t B N' { M with mark := fset M.mark i v } { w with k4 := dPut w.k4 (.inl i) (D.bl v) } := by
  obtain ⟨n12, n13, n14, n15, n23, n24, n25, n34, n35, n45⟩ := T.nes
  have nt : w.a4 ≠ t := ne_obj T.d4 T.ins (by simp)
  have n6 : w.a4 ≠ w.a6 := ne_obj T.d4 T.r6 (by simp)
  obtain ⟨l1, l2, l3, l4, l5, l6⟩ := T.len
  refine ⟨get_set_ne T.ins nt, get_set_ne T.d1 (n14.symm), get_set_ne T.d2 (n24.symm), get_set_ne T.d3 (n34.symm), get_set T.d4, get_set_ne T.d5 (n45), get_set_ne T.r6 n6, T.g1, T.g3, T.g4.put i v, T.g5, fun k => ?_, T.inj, T.nd, T.own, fun k hk => by rw [List.length_set]; exact T.bnd k hk, ⟨Nat.le_trans l1 hN, Nat.le_trans l2 hN, Nat.le_trans l3 hN, hl, Nat.le_trans l5 hN, Nat.le_trans l6 hN⟩, hc, ⟨T.ki.1, T.ki.2.1, T.ki.2.2.put i _⟩⟩
  rcases T.g2 k with q | ⟨l, b, q1, q2, q3, q4, q5⟩
  · exact .inl q
  · exact .inr ⟨l, b, q1, q2, get_set_ne q3 (ne_obj T.d4 q3 (by simp)), q4, q5⟩
theorem TabW.set5 {S : Store} {t N N' : Nat} {B : Nat → Prop} {M : TM} {w : TW} (T : TabW S t B N M w) (i : Int) (v : Int) (hN : N ≤ N') (hl : (dPut w.k5 (.inl i) (D.int v)).length ≤ N') (hc : N' ≤ 10000) :
    TabW (S.set w.a5 (.dct (dPut w.k5 (.inl i) (D.int v)))) t B N' { M with rank := fset M.rank i v } { w with k5 := dPut w.k5 (.inl i) (D.int v) } := by
  obtain ⟨n12, n13, n14, n15, n23, n24, n25, n34, n35, n45⟩ := T.nes
  have nt : w.a5 ≠ t := ne_obj T.d5 T.ins (by simp)
  have n6 : w.a5 ≠ w.a6 := ne_obj T.d5 T.r6 (by simp)
  obtain ⟨l1, l2, l3, l4, l5, l6⟩ := T.len
  refine ⟨get_set_ne T.ins nt, get_set_ne T.d1 (n15.symm), get_set_ne T.d2 (n25.symm), get_set_ne T.d3 (n35.symm), get_set_ne T.d4 (n45.symm), get_set T.d5, get_set_ne T.r6 n6, T.g1, T.g3, T.g4, T.g5.put i v, fun k => ?_, T.inj, T.nd, T.own, fun k hk => by rw [List.length_set]; exact T.bnd k hk, ⟨Nat.le_trans l1 hN, Nat.le_trans l2 hN, Nat.le_trans l3 hN, Nat.le_trans l4 hN, hl, Nat.le_trans l6 hN⟩, hc, T.ki⟩
  rcases T.g2 k with q | ⟨l, b, q1, q2, q3, q4, q5⟩
  · exact .inl q
  · exact .inr ⟨l, b, q1, q2, get_set_ne q3 (ne_obj T.d5 q3 (by simp)), q4, q5⟩
/-- a ticket's list of trees is another one -/
theorem TabW.set2 {S : Store} {t N N' b : Nat} {B : Nat → Prop} {M : TM} {w : TW} (T : TabW S t B N M w) (i : Int) (l : List (Option Int)) (hb : S[b]? = some (.lst (l.map oI))) (h6 : b ≠ w.a6) (hB : B b) (hu : ∀ j, dGet w.k2 (.inl j) ≠ some (.ref b)) (hN : N ≤ N') (hl : (dPut w.k2 (.inl i) (.ref b)).length ≤ N') (hc : N' ≤ 10000) :
    TabW (S.set w.a2 (.dct (dPut w.k2 (.inl i) (.ref b)))) t B N' { M with kids := fset M.kids i l } { w with k2 := dPut w.k2 (.inl i) (.ref b) } := by
  obtain ⟨n12, n13, n14, n15, n23, n24, n25, n34, n35, n45⟩ := T.nes
  have nt : w.a2 ≠ t := ne_obj T.d2 T.ins (by simp)
  have n6 : w.a2 ≠ w.a6 := ne_obj T.d2 T.r6 (by simp)
  obtain ⟨l1, l2, l3, l4, l5, l6⟩ := T.len
  refine ⟨get_set_ne T.ins nt, get_set_ne T.d1 n12.symm, get_set T.d2, get_set_ne T.d3 n23, get_set_ne T.d4 n24, get_set_ne T.d5 n25, get_set_ne T.r6 n6, T.g1, T.g3, T.g4, T.g5, fun k => ?_, fun k1 k2 c e1 e2 => ?_, T.nd, T.own, fun k hk => by rw [List.length_set]; exact T.bnd k hk, ⟨Nat.le_trans l1 hN, hl, Nat.le_trans l3 hN, Nat.le_trans l4 hN, Nat.le_trans l5 hN, Nat.le_trans l6 hN⟩, hc, ⟨T.ki.1, T.ki.2.1.put i _, T.ki.2.2⟩⟩
  · show (fset M.kids i l k = none ∧ dGet (dPut w.k2 (.inl i) (.ref b)) (.inl k) = none) ∨ _
    rw [dGet_put]
    by_cases e : k = i
    · subst e
      refine .inr ⟨l, b, fset_same _ _ _, ?_, get_set_ne hb (ne_obj T.d2 hb (by simp)), h6, hB⟩
      rw [if_pos rfl]
    · rw [if_neg (by simpa using e), fset_ne _ _ e]
      rcases T.g2 k with q | ⟨l', b', q1, q2, q3, q4, q5⟩
      · exact .inl q
      · refine .inr ⟨l', b', ?_, ?_, get_set_ne q3 (ne_obj T.d2 q3 (by simp)), q4, q5⟩
        · show fset M.kids i l k = _
          rw [fset_ne _ _ e]
          exact q1
        · exact q2
  · have f1 : dGet (dPut w.k2 (.inl i) (.ref b)) (.inl k1) = some (.ref c) := e1
    have f2 : dGet (dPut w.k2 (.inl i) (.ref b)) (.inl k2) = some (.ref c) := e2
    rw [dGet_put] at f1 f2
    by_cases z1 : k1 = i
    · by_cases z2 : k2 = i
      · rw [z1, z2]
      · rw [if_pos (by simp [z1])] at f1
        rw [if_neg (by simpa using z2)] at f2
        cases f1
        exact absurd f2 (hu k2)
    · rw [if_neg (by simpa using z1)] at f1
      by_cases z2 : k2 = i
      · rw [if_pos (by simp [z2])] at f2
        cases f2
        exact absurd f1 (hu k1)
      · rw [if_neg (by simpa using z2)] at f2
        exact T.inj k1 k2 c f1 f2
/-- a list of trees is written -/
theorem TabW.mod2 {S : Store} {t N b : Nat} {B : Nat → Prop} {M : TM} {w : TW} (T : TabW S t B N M w) (i : Int) (l : List (Option Int)) (hb : dGet w.k2 (.inl i) = some (.ref b)) :
    TabW (S.set b (.lst (l.map oI))) t B N { M with kids := fset M.kids i l } w := by
  obtain ⟨l0, hk, hb1, hb2, hb3⟩ : ∃ l0, M.kids i = some l0 ∧ S[b]? = some (.lst (l0.map oI)) ∧ b ≠ w.a6 ∧ B b := by
    rcases T.g2 i with q | ⟨l', b', q1, q2, q3, q4, q5⟩
    · rw [q.2] at hb; cases hb
    · rw [q2] at hb
      cases hb
      exact ⟨l', q1, q3, q4, q5⟩
  refine ⟨get_set_ne T.ins (ne_obj hb1 T.ins (by simp)), get_set_ne T.d1 (ne_obj hb1 T.d1 (by simp)), get_set_ne T.d2 (ne_obj hb1 T.d2 (by simp)), get_set_ne T.d3 (ne_obj hb1 T.d3 (by simp)), get_set_ne T.d4 (ne_obj hb1 T.d4 (by simp)), get_set_ne T.d5 (ne_obj hb1 T.d5 (by simp)), get_set_ne T.r6 hb2, T.g1, T.g3, T.g4, T.g5, fun k => ?_, T.inj, T.nd, T.own, fun k hk => by rw [List.length_set]; exact T.bnd k hk, T.len, T.cap, T.ki⟩
  by_cases e : k = i
  · subst e
    exact .inr ⟨l, b, fset_same _ _ _, hb, get_set hb1, hb2, hb3⟩
  · rcases T.g2 k with q | ⟨l', b', q1, q2, q3, q4, q5⟩
    · refine .inl ⟨?_, q.2⟩
      show fset M.kids i l k = none
      rw [fset_ne _ _ e]
      exact q.1
    · refine .inr ⟨l', b', ?_, q2, get_set_ne q3 (fun z => e ?_), q4, q5⟩
      · show fset M.kids i l k = _
        rw [fset_ne _ _ e]
        exact q1
      · subst z
        exact (T.inj k i b q2 hb)
/-- the roots are written -/
theorem TabW.mod6 {S : Store} {t N N' : Nat} {B : Nat → Prop} {M : TM} {w : TW} (T : TabW S t B N M w) (r : List Int) (hN : N ≤ N') (hl : r.length ≤ N') (hc : N' ≤ 10000) :
    TabW (S.set w.a6 (.lst (r.map D.int))) t B N' { M with roots := r } w := by
  obtain ⟨l1, l2, l3, l4, l5, l6⟩ := T.len
  refine ⟨get_set_ne T.ins (ne_obj T.r6 T.ins (by simp)), get_set_ne T.d1 (ne_obj T.r6 T.d1 (by simp)), get_set_ne T.d2 (ne_obj T.r6 T.d2 (by simp)), get_set_ne T.d3 (ne_obj T.r6 T.d3 (by simp)), get_set_ne T.d4 (ne_obj T.r6 T.d4 (by simp)), get_set_ne T.d5 (ne_obj T.r6 T.d5 (by simp)), get_set T.r6, T.g1, T.g3, T.g4, T.g5, fun k => ?_, T.inj, T.nd, T.own, fun k hk => by rw [List.length_set]; exact T.bnd k hk, ⟨Nat.le_trans l1 hN, Nat.le_trans l2 hN, Nat.le_trans l3 hN, Nat.le_trans l4 hN, Nat.le_trans l5 hN, hl⟩, hc, T.ki⟩
  rcases T.g2 k with q | ⟨l', b', q1, q2, q3, q4, q5⟩
  · exact .inl q
  · exact .inr ⟨l', b', q1, q2, get_set_ne q3 (Ne.symm q4), q4, q5⟩
/-- the roots are another list -/
theorem TabW.set6 {S : Store} {t N N' b : Nat} {B : Nat → Prop} {M : TM} {w : TW} (T : TabW S t B N M w) (r : List Int) (hb : S[b]? = some (.lst (r.map D.int))) (hB : B b) (hu : ∀ j, dGet w.k2 (.inl j) ≠ some (.ref b)) (hN : N ≤ N') (hl : r.length ≤ N') (hc : N' ≤ 10000) :
    TabW (S.set t (.ins 0 (putF "roots" (.ref b) (tbF M w)))) t B N' { M with roots := r } { w with a6 := b } := by
  obtain ⟨l1, l2, l3, l4, l5, l6⟩ := T.len
  obtain ⟨o1, o2, o3, o4, o5, o6, o7⟩ := T.own
  refine ⟨get_set T.ins, get_set_ne T.d1 (ne_obj T.ins T.d1 (by simp)), get_set_ne T.d2 (ne_obj T.ins T.d2 (by simp)), get_set_ne T.d3 (ne_obj T.ins T.d3 (by simp)), get_set_ne T.d4 (ne_obj T.ins T.d4 (by simp)), get_set_ne T.d5 (ne_obj T.ins T.d5 (by simp)), get_set_ne hb (ne_obj T.ins hb (by simp)), T.g1, T.g3, T.g4, T.g5, fun k => ?_, T.inj, T.nd, ⟨o1, o2, o3, o4, o5, o6, hB⟩, fun k hk => by rw [List.length_set]; exact T.bnd k hk, ⟨Nat.le_trans l1 hN, Nat.le_trans l2 hN, Nat.le_trans l3 hN, Nat.le_trans l4 hN, Nat.le_trans l5 hN, hl⟩, hc, T.ki⟩
  rcases T.g2 k with q | ⟨l', b', q1, q2, q3, q4, q5⟩
  · exact .inl q
  · refine .inr ⟨l', b', q1, q2, get_set_ne q3 (ne_obj T.ins q3 (by simp)), fun z => ?_, q5⟩
    have z : b' = b := z
    subst z
    exact hu k q2
/-- more is owned -/
theorem TabW.more {S : Store} {t N : Nat} {B B' : Nat → Prop} {M : TM} {w : TW} (T : TabW S t B N M w) (h : ∀ j, B j → B' j) (hb : ∀ j, B' j → j < S.length) : TabW S t B' N M w := by
  obtain ⟨o1, o2, o3, o4, o5, o6, o7⟩ := T.own
  refine ⟨T.ins, T.d1, T.d2, T.d3, T.d4, T.d5, T.r6, T.g1, T.g3, T.g4, T.g5, fun k => ?_, T.inj, T.nd, ⟨h _ o1, h _ o2, h _ o3, h _ o4, h _ o5, h _ o6, h _ o7⟩, hb, T.len, T.cap, T.ki⟩
  rcases T.g2 k with q | ⟨l', b', q1, q2, q3, q4, q5⟩
  · exact .inl q
  · exact .inr ⟨l', b', q1, q2, q3, q4, h _ q5⟩
end Mn

/-! Methods of tables. -/
namespace Mn
open PySem
section
variable {S : Store} {t N : Nat} {B : Nat → Prop} {M : TM}
theorem item_ok (n : Nat) {i k : Int} {Q : DK} {X : XK} (T : Tab S t B N M) (h : M.key i = some k) (q : Q (itD (k, i)) S) : callN PP (n + 1) f_Table_item [.ref t, .int i] S Q X := by
  obtain ⟨w, T⟩ := T
  refine enter rfl rfl ?_
  show wpCs _ k_Table_item_0 _ [some (.ref t), some (.int i)] S
  bv_omega
  refine attr_go T.ins (tb_key M w) ?_
  refine ixi_go T.d1 (T.g1.some h) ?_
  ac_rfl
  exact q
theorem is_less_ok (n : Nat) {i j a b : Int} {Q : DK} {X : XK} (T : Tab S t B N M) (h1 : M.key i = some a) (h2 : M.key j = some b) (q : Q (.bl (itLt (a, i) (b, j))) S) : callN PP (n + 2) f_Table_is_less [.ref t, .int i, .int j] S Q X := by
  obtain ⟨w, T⟩ := T
  refine enter rfl rfl ?_
  show wpCs _ k_Table_is_less_0 _ [some (.ref t), some (.int i), some (.int j)] S
  bv_omega
  refine meth_go T.ins rfl (item_ok n ⟨w, T⟩ h1 ?_)
  refine meth_go T.ins rfl (item_ok n ⟨w, T⟩ h2 ?_)
  exact clt_it (a, i) (b, j) (K := fun k => Q (.bl k) S) q
theorem sorted_two_ok (n : Nat) {i j a b : Int} {Q : DK} {X : XK} (T : Tab S t B N M) (h1 : M.key i = some a) (h2 : M.key j = some b) (q : Q (if itLt (a, i) (b, j) = true then .tup [.int i, .int j] else .tup [.int j, .int i]) S) : callN PP (n + 3) f_Table_sorted_two [.ref t, .int i, .int j] S Q X := by
  obtain ⟨w, T⟩ := T
  refine enter rfl rfl ?_
  show wpCs _ k_Table_sorted_two_0 _ [some (.ref t), some (.int i), some (.int j)] S
  bv_omega
  refine meth_go T.ins rfl (is_less_ok n ⟨w, T⟩ h1 h2 ?_)
  cases hb : itLt (a, i) (b, j) with
  | true => rw [hb] at q; ac_rfl; exact q
  | false => rw [hb] at q; ac_rfl; exact q
/-- the rank of a side -/
def rkO (M : TM) : Option Int → Option Int
  | none => some 0
  | some i => M.rank i
theorem rank_ok (n : Nat) {x : Option Int} {r : Int} {Q : DK} {X : XK} (T : Tab S t B N M) (h : rkO M x = some r) (q : Q (.int r) S) : callN PP (n + 1) f_Table_rank [.ref t, oI x] S Q X := by
  obtain ⟨w, T⟩ := T
  refine enter rfl rfl ?_
  show wpCs _ k_Table_rank_0 _ [some (.ref t), some (oI x)] S
  cases x with
  | none =>
    cases h
    bv_omega
    exact q
  | some i =>
    bv_omega
    refine attr_go T.ins (tb_ranks M w) ?_
    refine ixi_go T.d5 (T.g5.some h) ?_
    exact q
theorem kids_at {w : TW} (T : TabW S t B N M w) {i : Int} {l : List (Option Int)} (h : M.kids i = some l) : ∃ b, dGet w.k2 (.inl i) = some (.ref b) ∧ S[b]? = some (.lst (l.map oI)) ∧ b ≠ w.a6 ∧ B b := by
  rcases T.g2 i with q | ⟨l', b', q1, q2, q3, q4, q5⟩
  · rw [q.1] at h; cases h
  · rw [q1] at h
    cases h
    exact ⟨b', q2, q3, q4, q5⟩
theorem set_rank_ok (n : Nat) {i r : Int} {x y : Option Int} {Q : DK} {X : XK} (T : Tab S t B N M) (h0 : M.rank i ≠ none) (h1 : M.kids i = some [x, y]) (h2 : rkO M y = some r)
    (q : ∀ S', Tab S' t B N (if M.kind = .left then { M with rank := fset M.rank i (1 + r) } else M) → Step B B S S' → Q .non S') : callN PP (n + 2) f_Table_set_rank [.ref t, .int i] S Q X := by
  obtain ⟨w, T⟩ := T
  refine enter rfl rfl ?_
  show wpCs _ k_Table_set_rank_0 _ [some (.ref t), some (.int i)] S
  bv_omega
  refine attr_go T.ins (tb_kind M w) ?_
  refine kd_eq (b := .left) ?_
  by_cases hk : M.kind = .left
  · rw [decide_eq_true hk]
    rw [if_pos hk] at q
    show wpCs _ k_Table_set_rank_0a0 _ _ _
    bv_omega
    obtain ⟨b, e1, e2, e3, e4⟩ := kids_at T h1
    refine meth_go T.ins rfl ?_
    refine attr_go T.ins (tb_kids M w) ?_
    refine ixi_go T.d2 e1 ?_
    refine ixn_go (j := 1) e2 rfl rfl ?_
    refine rank_ok n ⟨w, T⟩ h2 ?_
    ac_rfl
    refine attr_go T.ins (tb_ranks M w) ?_
    have hs : (dGet w.k5 (.inl i)).isSome = true := by
      rw [T.g5]
      cases hr : M.rank i with
      | none => exact absurd hr h0
      | some _ => rfl
    obtain ⟨l1, l2, l3, l4, l5, l6⟩ := T.len
    have cap := T.cap
    refine seti_go T.d5 (by omega) ?_
    exact q _ ⟨_, T.set5 i (1 + r) (Nat.le_refl _) (by rw [dPut_same hs]; exact l5) cap⟩ (Step.set _ T.own.2.2.2.2.2.1)
  · rw [decide_eq_false hk]
    rw [if_neg hk] at q
    exact q S ⟨w, T⟩ (Step.refl _ _)
/-- a tree, or none, stands at a place of another one -/
def TM.hang (M : TM) (u : Int) (p : Nat) (x : Option Int) : TM := match M.kids u with
  | some l => (match x with
    | some i => { M with kids := fset M.kids u (l.set p x), up := fset M.up i (some u) }
    | none => { M with kids := fset M.kids u (l.set p x) })
  | none => M
theorem hang_ok (n : Nat) {u : Int} {p : Nat} {x : Option Int} {l : List (Option Int)} {Q : DK} {X : XK} (T : Tab S t B N M) (h1 : M.kids u = some l) (hp : p < l.length) (hx : ∀ i, x = some i → M.up i ≠ none)
    (q : ∀ S', Tab S' t B N (M.hang u p x) → Step B B S S' → Q .non S') : callN PP (n + 1) f_Table_hang [.ref t, .int u, .int p, oI x] S Q X := by
  obtain ⟨w, T⟩ := T
  refine enter rfl rfl ?_
  show wpCs _ k_Table_hang_0 _ [some (.ref t), some (.int u), some (.int p), some (oI x)] S
  bv_omega
  obtain ⟨b, e1, e2, e3, e4⟩ := kids_at T h1
  refine attr_go T.ins (tb_kids M w) ?_
  refine ixi_go T.d2 e1 ?_
  refine setl_go e2 rfl (by rw [List.length_map]; exact hp) ?_
  rw [show (l.map oI).set p (oI x) = (l.set p x).map oI by rw [List.map_set]]
  have T2 := T.mod2 u (l.set p x) e1
  have st := Step.set (S := S) (.lst ((l.set p x).map oI)) e4
  unfold TM.hang at q
  rw [h1] at q
  cases x with
  | none =>
    bv_omega
    exact q _ ⟨w, T2⟩ st
  | some i =>
    bv_omega
    show wpCs _ k_Table_hang_1a0 _ _ _
    bv_omega
    refine attr_go T2.ins (tb_ups _ w) ?_
    have hs : (dGet w.k3 (.inl i)).isSome = true := by
      rw [T.g3]
      cases hr : M.up i with
      | none => exact absurd hr (hx i rfl)
      | some _ => rfl
    obtain ⟨l1, l2, l3, l4, l5, l6⟩ := T.len
    have cap := T.cap
    refine seti_go T2.d3 (by omega) ?_
    exact q _ ⟨_, T2.set3 i (some u) (Nat.le_refl _) (by show (dPut w.k3 _ _).length ≤ N; rw [dPut_same hs]; exact l3) cap⟩ (st.trans (Step.set _ T.own.2.2.2.1))
/-- the sides of a tree of left change, where they must -/
def TM.swap (M : TM) (i : Int) (x y : Option Int) (rx ry : Int) : TM :=
  if M.kind = .left then
    (if rx < ry then { M with kids := fset M.kids i [y, x], rank := fset M.rank i (1 + rx) } else { M with rank := fset M.rank i (1 + ry) })
  else M
theorem new_own {w : TW} (T : TabW S t B N M w) (o : Ob) : TabW (S ++ [o]) t (fun j => B j ∨ j = S.length) N M w :=
  (T.keep fun j o' _ h => get_push h [o]).more (fun j h => .inl h) (fun j h => by
    rw [List.length_append]
    rcases h with h | h
    · have := T.bnd j h
      omega
    · simp [h])
theorem new_step (o : Ob) : Step B (fun j => B j ∨ j = S.length) S (S ++ [o]) :=
  ⟨fun j h => by
    rcases h with h | h
    · exact .inl h
    · exact .inr (Nat.le_of_eq h.symm), by simp, fun j hj _ => by rw [List.getElem?_append_left hj]⟩
theorem new_no {w : TW} (T : TabW S t B N M w) : (∀ j, dGet w.k2 (.inl j) ≠ some (.ref S.length)) ∧ S.length ≠ w.a6 := by
  refine ⟨fun j e => ?_, fun z => ?_⟩
  · rcases T.g2 j with q | ⟨l', b', q1, q2, q3, q4, q5⟩
    · rw [q.2] at e; cases e
    · rw [q2] at e
      cases e
      have := get_lt q3
      omega
  · have := get_lt T.r6
    omega
theorem kids_some {w : TW} (T : TabW S t B N M w) {i : Int} {l : List (Option Int)} (h : M.kids i = some l) : (dGet w.k2 (.inl i)).isSome = true := by
  obtain ⟨b, e1, _⟩ := kids_at T h
  rw [e1]
  rfl
theorem swap_ok (n : Nat) {i rx ry : Int} {x y : Option Int} {Q : DK} {X : XK} (T : Tab S t B N M) (h0 : M.rank i ≠ none) (h1 : M.kids i = some [x, y]) (h2 : M.kind = .left → rkO M x = some rx) (h3 : M.kind = .left → rkO M y = some ry)
    (q : ∀ S' B', Tab S' t B' N (M.swap i x y rx ry) → Step B B' S S' → Q .non S') : callN PP (n + 3) f_swap_sides [.ref t, .int i] S Q X := by
  obtain ⟨w, T⟩ := T
  refine enter rfl rfl ?_
  show wpCs _ k_swap_sides_0 _ [some (.ref t), some (.int i), none, none] S
  bv_omega
  refine attr_go T.ins (tb_kind M w) ?_
  refine kd_eq (b := .left) ?_
  unfold TM.swap at q
  by_cases hk : M.kind = .left
  · rw [decide_eq_true hk]
    have h2 := h2 hk
    have h3 := h3 hk
    rw [if_pos hk] at q
    show wpCs _ k_swap_sides_0a0 _ _ _
    bv_omega
    obtain ⟨b, e1, e2, e3, e4⟩ := kids_at T h1
    refine attr_go T.ins (tb_kids M w) ?_
    refine ixi_go T.d2 e1 ?_
    refine unp_go e2 ?_
    ac_rfl
    bv_omega
    refine meth_go T.ins rfl (rank_ok (n + 1) ⟨w, T⟩ h2 ?_)
    refine meth_go T.ins rfl (rank_ok (n + 1) ⟨w, T⟩ h3 ?_)
    ac_rfl
    by_cases hlt : rx < ry
    · rw [decide_eq_true hlt]
      rw [if_pos hlt] at q
      show wpCs _ k_swap_sides_0a1a0 _ _ _
      bv_omega
      have T1 := new_own T (.lst [oI y, oI x])
      have st1 := new_step (B := B) (S := S) (.lst [oI y, oI x])
      obtain ⟨n1, n2⟩ := new_no T
      obtain ⟨l1, l2, l3, l4, l5, l6⟩ := T.len
      have cap := T.cap
      refine attr_go T1.ins (tb_kids M w) ?_
      refine seti_go T1.d2 (by omega) ?_
      have T2 := T1.set2 (b := S.length) i [y, x] (last_get _ _) n2 (.inr rfl) n1 (Nat.le_refl _) (by rw [dPut_same (kids_some T h1)]; exact l2) cap
      have st2 := st1.trans (Step.set (B := fun j => B j ∨ j = S.length) (.dct (dPut w.k2 (.inl i) (.ref S.length))) T1.own.2.2.1)
      bv_omega
      refine meth_go T2.ins rfl ?_
      refine set_rank_ok n (i := i) (r := rx) (x := y) (y := x) ⟨_, T2⟩ h0 (fset_same _ _ _) h2 fun S3 T3 st3 => ?_
      rw [if_pos hk] at T3
      exact q _ _ T3 (st2.trans st3)
    · rw [decide_eq_false hlt]
      rw [if_neg hlt] at q
      bv_omega
      refine meth_go T.ins rfl ?_
      refine set_rank_ok n (i := i) (r := ry) (x := x) (y := y) ⟨_, T⟩ h0 h1 h3 fun S3 T3 st3 => ?_
      rw [if_pos hk] at T3
      exact q _ _ T3 st3
  · rw [decide_eq_false hk]
    rw [if_neg hk] at q
    exact q S B ⟨w, T⟩ (Step.refl _ _)
theorem set_root_ok (n : Nat) {x : Option Int} {Q : DK} {X : XK} (T : Tab S t B N M) (hN : 1 ≤ N)
    (q : ∀ S' B', Tab S' t B' N { M with roots := x.toList } → Step B B' S S' → Q .non S') : callN PP (n + 1) f_set_root [.ref t, oI x] S Q X := by
  obtain ⟨w, T⟩ := T
  refine enter rfl rfl ?_
  show wpCs _ k_set_root_0 _ [some (.ref t), some (oI x)] S
  have T1 := new_own T (.lst (x.toList.map D.int))
  have st1 := new_step (B := B) (S := S) (.lst (x.toList.map D.int))
  obtain ⟨n1, n2⟩ := new_no T
  have fin : setAt 0 "roots" (.ref t) (.ref S.length) (S ++ [.lst (x.toList.map D.int)]) fun S3 => Q .non S3 := by
    refine setA_go T1.ins nle ?_
    have T2 := T1.set6 (b := S.length) x.toList (last_get _ _) (.inr rfl) n1 (Nat.le_refl _) (by cases x <;> simp; omega) T.cap
    exact q _ _ ⟨_, T2⟩ (st1.trans (Step.set _ T1.own.1))
  cases x with
  | none =>
    bv_omega
    exact fin
  | some i =>
    bv_omega
    exact fin
end
end Mn

/-! Trees of two sides. -/
namespace Mn
open PySem
inductive T2 where
  | nil
  | node (k i : Int) (a b : T2)
  deriving DecidableEq
def T2.l : T2 → List D
  | .nil => []
  | .node k i a b => [itD (k, i), .tup a.l, .tup b.l]
abbrev T2.d (t : T2) : D := .tup t.l
def T2.tk : T2 → Option Int
  | .nil => none
  | .node _ i _ _ => some i
def T2.tks : T2 → List Int
  | .nil => []
  | .node _ i a b => i :: (a.tks ++ b.tks)
def T2.rk : T2 → Int
  | .nil => 0
  | .node _ _ _ b => 1 + b.rk
def T2.sz : T2 → Nat
  | .nil => 0
  | .node _ _ a b => a.sz + b.sz + 1
theorem T2.tks_len : ∀ t : T2, t.tks.length = t.sz
  | .nil => rfl
  | .node _ _ a b => by
    show (a.tks ++ b.tks).length + 1 = _
    rw [List.length_append, T2.tks_len a, T2.tks_len b]
    rfl
/-- a tree with its sides as they must be -/
def sided (kd : Kd) (k i : Int) (one below : T2) : T2 := match kd with
  | .skew => .node k i below one
  | _ => if one.rk < below.rk then .node k i below one else .node k i one below
def meetN (kd : Kd) : Nat → T2 → T2 → T2 × Nat
  | 0, a, _ => (a, 0)
  | n + 1, a, b => match a, b with
    | a, .nil => (a, 0)
    | .nil, b => (b, 0)
    | .node k i a1 a2, .node k' i' b1 b2 => if itLt (k', i') (k, i) = true then
        (sided kd k' i' b1 (meetN kd n b2 (.node k i a1 a2)).1, (meetN kd n b2 (.node k i a1 a2)).2 + 1)
      else (sided kd k i a1 (meetN kd n a2 (.node k' i' b1 b2)).1, (meetN kd n a2 (.node k' i' b1 b2)).2 + 1)
/-- who wins on the way down, and what is left at last -/
def wins : Nat → T2 → T2 → List Int × T2
  | 0, a, _ => ([], a)
  | n + 1, a, b => match a, b with
    | a, .nil => ([], a)
    | .nil, b => ([], b)
    | .node k i a1 a2, .node k' i' b1 b2 => if itLt (k', i') (k, i) = true then
        (i' :: (wins n b2 (.node k i a1 a2)).1, (wins n b2 (.node k i a1 a2)).2)
      else (i :: (wins n a2 (.node k' i' b1 b2)).1, (wins n a2 (.node k' i' b1 b2)).2)
theorem wins_len (kd : Kd) : ∀ (n : Nat) (a b : T2), (wins n a b).1.length = (meetN kd n a b).2
  | 0, _, _ => rfl
  | n + 1, a, b => by
    unfold wins meetN
    split
    · rfl
    · rfl
    · split
      · show _ + 1 = _ + 1
        rw [wins_len kd n]
      · show _ + 1 = _ + 1
        rw [wins_len kd n]
theorem wins_le : ∀ (n : Nat) (a b : T2), (wins n a b).1.length ≤ n
  | 0, _, _ => Nat.le_refl _
  | n + 1, a, b => by
    unfold wins
    split
    · exact Nat.zero_le _
    · exact Nat.zero_le _
    · split
      · exact Nat.succ_le_succ (wins_le n _ _)
      · exact Nat.succ_le_succ (wins_le n _ _)
theorem sided_tks (kd : Kd) (k i : Int) (a b : T2) : (sided kd k i a b).tks.Perm (i :: (a.tks ++ b.tks)) := by
  have h : (T2.node k i b a).tks.Perm (i :: (a.tks ++ b.tks)) := List.Perm.cons _ List.perm_append_comm
  unfold sided
  split
  · exact h
  · split
    · exact h
    · exact List.Perm.refl _
theorem meet_tks (kd : Kd) : ∀ (n : Nat) (a b : T2), a.sz + b.sz ≤ n → (meetN kd n a b).1.tks.Perm (a.tks ++ b.tks)
  | 0, a, b, h => by
    have e1 : a = .nil := by cases a with | nil => rfl | node _ _ x y => (have : x.sz + y.sz + 1 + b.sz ≤ 0 := h); omega
    have e2 : b = .nil := by cases b with | nil => rfl | node _ _ x y => (have : a.sz + (x.sz + y.sz + 1) ≤ 0 := h); omega
    subst e1 e2
    exact List.Perm.refl _
  | n + 1, a, b, h => by
    unfold meetN
    split
    · show a.tks.Perm (a.tks ++ [])
      rw [List.append_nil]
    · exact List.Perm.refl _
    · rename_i k i a1 a2 k' i' b1 b2
      have h : a1.sz + a2.sz + 1 + (b1.sz + b2.sz + 1) ≤ n + 1 := h
      split
      · refine (sided_tks _ _ _ _ _).trans ?_
        have ih := meet_tks kd n b2 (.node k i a1 a2) (by show b2.sz + (a1.sz + a2.sz + 1) ≤ n; omega)
        show (i' :: (b1.tks ++ _)).Perm ((i :: (a1.tks ++ a2.tks)) ++ (i' :: (b1.tks ++ b2.tks)))
        refine ((ih.append_left b1.tks).cons i').trans ?_
        refine List.Perm.trans ?_ List.perm_append_comm
        show (i' :: (b1.tks ++ (b2.tks ++ (i :: (a1.tks ++ a2.tks))))).Perm ((i' :: (b1.tks ++ b2.tks)) ++ (i :: (a1.tks ++ a2.tks)))
        simp
      · refine (sided_tks _ _ _ _ _).trans ?_
        have ih := meet_tks kd n a2 (.node k' i' b1 b2) (by show a2.sz + (b1.sz + b2.sz + 1) ≤ n; omega)
        show (i :: (a1.tks ++ _)).Perm ((i :: (a1.tks ++ a2.tks)) ++ (i' :: (b1.tks ++ b2.tks)))
        refine ((ih.append_left a1.tks).cons i).trans ?_
        show (i :: (a1.tks ++ (a2.tks ++ (i' :: (b1.tks ++ b2.tks))))).Perm _
        simp
/-! ### a tree in a table -/
def At (M : TM) : T2 → Prop
  | .nil => True
  | .node k i a b => M.key i = some k ∧ M.kids i = some [a.tk, b.tk] ∧ (M.kind = .left → M.rank i = some (1 + b.rk)) ∧ M.rank i ≠ none ∧ M.up i ≠ none ∧ At M a ∧ At M b
def UpOk (M : TM) : Option Int → T2 → Prop
  | _, .nil => True
  | p, .node _ i a b => M.up i = some p ∧ UpOk M (some i) a ∧ UpOk M (some i) b
def UpIn (M : TM) : T2 → Prop
  | .nil => True
  | .node _ i a b => UpOk M (some i) a ∧ UpOk M (some i) b
theorem UpOk.inn {M : TM} {p : Option Int} {t : T2} (h : UpOk M p t) : UpIn M t := by
  cases t with
  | nil => trivial
  | node k i a b => exact h.2
theorem At.rk {M : TM} {t : T2} (h : At M t) (hk : M.kind = .left) : rkO M t.tk = some t.rk := by
  cases t with
  | nil => rfl
  | node k i a b => exact h.2.2.1 hk
theorem At.up {M : TM} {t : T2} (h : At M t) : ∀ i, t.tk = some i → M.up i ≠ none := by
  intro i e
  cases t with
  | nil => cases e
  | node k j a b =>
    cases e
    exact h.2.2.2.2.1
/-- alike but at some tickets -/
structure Agr (M M' : TM) (l : List Int) : Prop where
  kind : M'.kind = M.kind
  roots : M'.roots = M.roots
  mark : M'.mark = M.mark
  key : M'.key = M.key
  kids : ∀ i, i ∉ l → M'.kids i = M.kids i
  up : ∀ i, i ∉ l → M'.up i = M.up i
  rank : ∀ i, i ∉ l → M'.rank i = M.rank i
theorem Agr.refl (M : TM) (l : List Int) : Agr M M l := ⟨rfl, rfl, rfl, rfl, fun _ _ => rfl, fun _ _ => rfl, fun _ _ => rfl⟩
theorem Agr.trans {M M1 M2 : TM} {l : List Int} (a : Agr M M1 l) (b : Agr M1 M2 l) : Agr M M2 l :=
  ⟨b.kind.trans a.kind, b.roots.trans a.roots, b.mark.trans a.mark, b.key.trans a.key, fun i h => (b.kids i h).trans (a.kids i h), fun i h => (b.up i h).trans (a.up i h), fun i h => (b.rank i h).trans (a.rank i h)⟩
theorem Agr.mono {M M1 : TM} {l l' : List Int} (a : Agr M M1 l) (h : ∀ i, i ∈ l → i ∈ l') : Agr M M1 l' :=
  ⟨a.kind, a.roots, a.mark, a.key, fun i hi => a.kids i fun z => hi (h i z), fun i hi => a.up i fun z => hi (h i z), fun i hi => a.rank i fun z => hi (h i z)⟩
theorem Agr.at_ {M M' : TM} {l : List Int} (a : Agr M M' l) : ∀ {t : T2}, (∀ i ∈ t.tks, i ∉ l) → At M t → At M' t
  | .nil, _, _ => trivial
  | .node k i x y, h, q => by
    have hi : i ∉ l := h i (by simp [T2.tks])
    have hx : ∀ j ∈ x.tks, j ∉ l := fun j hj => h j (by simp [T2.tks, hj])
    have hy : ∀ j ∈ y.tks, j ∉ l := fun j hj => h j (by simp [T2.tks, hj])
    obtain ⟨q1, q2, q3, q4, q5, q6, q7⟩ := q
    refine ⟨by rw [a.key]; exact q1, by rw [a.kids i hi]; exact q2, fun z => by rw [a.rank i hi]; exact q3 (by rw [← a.kind]; exact z), by rw [a.rank i hi]; exact q4, by rw [a.up i hi]; exact q5, a.at_ hx q6, a.at_ hy q7⟩
theorem Agr.upOk {M M' : TM} {l : List Int} (a : Agr M M' l) : ∀ {t : T2} {p : Option Int}, (∀ i ∈ t.tks, i ∉ l) → UpOk M p t → UpOk M' p t
  | .nil, _, _, _ => trivial
  | .node k i x y, p, h, q => by
    have hi : i ∉ l := h i (by simp [T2.tks])
    exact ⟨by rw [a.up i hi]; exact q.1, a.upOk (fun j hj => h j (by simp [T2.tks, hj])) q.2.1, a.upOk (fun j hj => h j (by simp [T2.tks, hj])) q.2.2⟩
theorem Agr.upIn {M M' : TM} {l : List Int} (a : Agr M M' l) {t : T2} (h : ∀ i ∈ t.tks, i ∉ l) (q : UpIn M t) : UpIn M' t := by
  cases t with
  | nil => trivial
  | node k i x y => exact ⟨a.upOk (fun j hj => h j (by simp [T2.tks, hj])) q.1, a.upOk (fun j hj => h j (by simp [T2.tks, hj])) q.2⟩
end Mn

/-! Two trees meet. -/
namespace Mn
open PySem
theorem T2.tk_mem {t : T2} {i : Int} (h : t.tk = some i) : i ∈ t.tks := by
  cases t with
  | nil => cases h
  | node k j a b =>
    cases h
    simp [T2.tks]
/-- what counts for a tree in a table -/
theorem At.congr {M M' : TM} (hk : M'.kind = M.kind) : ∀ {t : T2}, (∀ i ∈ t.tks, M'.key i = M.key i ∧ M'.kids i = M.kids i ∧ M'.rank i = M.rank i ∧ (M.up i ≠ none → M'.up i ≠ none)) → At M t → At M' t
  | .nil, _, _ => trivial
  | .node k i x y, h, q => by
    obtain ⟨c1, c2, c3, c4⟩ := h i (by simp [T2.tks])
    obtain ⟨q1, q2, q3, q4, q5, q6, q7⟩ := q
    exact ⟨by rw [c1]; exact q1, by rw [c2]; exact q2, fun z => by rw [c3]; exact q3 (by rw [← hk]; exact z), by rw [c3]; exact q4, c4 q5, At.congr hk (fun j hj => h j (by simp [T2.tks, hj])) q6, At.congr hk (fun j hj => h j (by simp [T2.tks, hj])) q7⟩
theorem UpOk.congr {M M' : TM} : ∀ {t : T2} {p : Option Int}, (∀ i ∈ t.tks, M'.up i = M.up i) → UpOk M p t → UpOk M' p t
  | .nil, _, _, _ => trivial
  | .node k i x y, p, h, q => ⟨by rw [h i (by simp [T2.tks])]; exact q.1, UpOk.congr (fun j hj => h j (by simp [T2.tks, hj])) q.2.1, UpOk.congr (fun j hj => h j (by simp [T2.tks, hj])) q.2.2⟩
/-- a tree becomes a side of i -/
theorem side_up {M M' : TM} {i : Int} {t : T2} (h1 : ∀ j, t.tk = some j → M'.up j = some (some i)) (h2 : ∀ j ∈ t.tks, t.tk ≠ some j → M'.up j = M.up j) (nd : t.tks.Nodup) (u : UpIn M t) : UpOk M' (some i) t := by
  cases t with
  | nil => trivial
  | node k j x y =>
    have nd' : (j :: (x.tks ++ y.tks)).Nodup := nd
    rw [List.nodup_cons] at nd'
    refine ⟨h1 j rfl, UpOk.congr (fun z hz => ?_) u.1, UpOk.congr (fun z hz => ?_) u.2⟩
    · refine h2 z (by simp [T2.tks, hz]) fun e => ?_
      cases e
      exact nd'.1 (List.mem_append_left _ hz)
    · refine h2 z (by simp [T2.tks, hz]) fun e => ?_
      cases e
      exact nd'.1 (List.mem_append_right _ hz)
theorem mk_node {M M2 : TM} {k i : Int} {a b : T2} (hk : M2.kind = M.kind) (hkey : M2.key = M.key) (hkids : ∀ j, j ≠ i → M2.kids j = M.kids j) (hrank : ∀ j, j ≠ i → M2.rank j = M.rank j)
    (up1 : ∀ j, a.tk = some j ∨ b.tk = some j → M2.up j = some (some i)) (up2 : ∀ j, a.tk ≠ some j → b.tk ≠ some j → M2.up j = M.up j) (k1 : M2.kids i = some [a.tk, b.tk]) (k2 : M.key i = some k)
    (k3 : M.kind = .left → M2.rank i = some (1 + b.rk)) (k4 : M2.rank i ≠ none) (k5 : M.up i ≠ none) (ha : At M a) (hb : At M b) (ua : UpIn M a) (ub : UpIn M b) (nd : (i :: (a.tks ++ b.tks)).Nodup) :
    At M2 (.node k i a b) ∧ UpIn M2 (.node k i a b) := by
  rw [List.nodup_cons, List.nodup_append] at nd
  obtain ⟨n1, n2, n3, n4⟩ := nd
  have ne : ∀ j ∈ a.tks ++ b.tks, j ≠ i := fun j hj z => n1 (z ▸ hj)
  have hup : ∀ j, M.up j ≠ none → M2.up j ≠ none := fun j hj => by
    by_cases h1 : a.tk = some j
    · rw [up1 j (.inl h1)]; simp
    · by_cases h2 : b.tk = some j
      · rw [up1 j (.inr h2)]; simp
      · rw [up2 j h1 h2]; exact hj
  have cg : ∀ j ∈ a.tks ++ b.tks, M2.key j = M.key j ∧ M2.kids j = M.kids j ∧ M2.rank j = M.rank j ∧ (M.up j ≠ none → M2.up j ≠ none) := fun j hj => ⟨by rw [hkey], hkids j (ne j hj), hrank j (ne j hj), hup j⟩
  refine ⟨⟨by rw [hkey]; exact k2, k1, fun z => k3 (by rw [← hk]; exact z), k4, hup i k5, At.congr hk (fun j hj => cg j (List.mem_append_left _ hj)) ha, At.congr hk (fun j hj => cg j (List.mem_append_right _ hj)) hb⟩, ?_, ?_⟩
  · refine side_up (fun j hj => up1 j (.inl hj)) (fun j hj hne => up2 j hne fun z => ?_) n2 ua
    exact n4 j hj j (T2.tk_mem z) rfl
  · refine side_up (fun j hj => up1 j (.inr hj)) (fun j hj hne => up2 j (fun z => ?_) hne) n3 ub
    exact n4 j (T2.tk_mem z) j hj rfl
/-! ### hang, in a plain table -/
theorem hang_kind (M : TM) (u : Int) (p : Nat) (x : Option Int) : (M.hang u p x).kind = M.kind := by unfold TM.hang; split <;> (try split) <;> rfl
theorem hang_key (M : TM) (u : Int) (p : Nat) (x : Option Int) : (M.hang u p x).key = M.key := by unfold TM.hang; split <;> (try split) <;> rfl
theorem hang_roots (M : TM) (u : Int) (p : Nat) (x : Option Int) : (M.hang u p x).roots = M.roots := by unfold TM.hang; split <;> (try split) <;> rfl
theorem hang_mark (M : TM) (u : Int) (p : Nat) (x : Option Int) : (M.hang u p x).mark = M.mark := by unfold TM.hang; split <;> (try split) <;> rfl
theorem hang_rank (M : TM) (u : Int) (p : Nat) (x : Option Int) : (M.hang u p x).rank = M.rank := by unfold TM.hang; split <;> (try split) <;> rfl
theorem hang_kids {M : TM} {u : Int} {l : List (Option Int)} (p : Nat) (x : Option Int) (h : M.kids u = some l) : (M.hang u p x).kids = fset M.kids u (l.set p x) := by
  unfold TM.hang
  rw [h]
  cases x <;> rfl
theorem hang_up {M : TM} {u : Int} {l : List (Option Int)} (p : Nat) (x : Option Int) (h : M.kids u = some l) (j : Int) : (M.hang u p x).up j = if x = some j then some (some u) else M.up j := by
  unfold TM.hang
  rw [h]
  cases x with
  | none => rfl
  | some i =>
    show fset M.up i (some u) j = _
    unfold fset
    by_cases e : j = i
    · subst e; simp
    · rw [if_neg e, if_neg (by simpa using Ne.symm e)]
/-- a winner of skew gets its sides -/
theorem skew_node {M : TM} {k i : Int} {x y : T2} {z : Option Int} (hs : M.kind = .skew) (hkey : M.key i = some k) (hkids : M.kids i = some [x.tk, z]) (hr : M.rank i ≠ none) (hu : M.up i ≠ none)
    (hx : At M x) (hy : At M y) (ux : UpIn M x) (uy : UpIn M y) (nd : (i :: (x.tks ++ y.tks)).Nodup) :
    At ((M.hang i 0 y.tk).hang i 1 x.tk) (.node k i y x) ∧ UpIn ((M.hang i 0 y.tk).hang i 1 x.tk) (.node k i y x) ∧ Agr M ((M.hang i 0 y.tk).hang i 1 x.tk) (i :: (x.tks ++ y.tks)) ∧ (M.hang i 0 y.tk).kids i = some [y.tk, z] := by
  have e1 : (M.hang i 0 y.tk).kids i = some [y.tk, z] := by rw [hang_kids 0 _ hkids, fset_same]; rfl
  have upE : ∀ j, ((M.hang i 0 y.tk).hang i 1 x.tk).up j = if x.tk = some j then some (some i) else if y.tk = some j then some (some i) else M.up j := fun j => by rw [hang_up 1 _ e1, hang_up 0 _ hkids]
  have kdE : ∀ j, j ≠ i → ((M.hang i 0 y.tk).hang i 1 x.tk).kids j = M.kids j := fun j hj => by rw [hang_kids 1 _ e1, fset_ne _ _ hj, hang_kids 0 _ hkids, fset_ne _ _ hj]
  have key := mk_node (M := M) (M2 := (M.hang i 0 y.tk).hang i 1 x.tk) (k := k) (i := i) (a := y) (b := x) (by rw [hang_kind, hang_kind]) (by rw [hang_key, hang_key]) kdE (fun j _ => by rw [hang_rank, hang_rank])
    (fun j hj => by
      rw [upE]
      rcases hj with h | h
      · split <;> first | rfl | rw [if_pos h]
      · rw [if_pos h])
    (fun j h1 h2 => by rw [upE, if_neg h2, if_neg h1]) (by rw [hang_kids 1 _ e1, fset_same]; rfl) hkey (fun z => by rw [hs] at z; cases z) (by rw [hang_rank, hang_rank]; exact hr) hu hy hx uy ux (by
      rw [List.nodup_cons] at nd ⊢
      exact ⟨fun z => nd.1 (List.mem_append.mpr ((List.mem_append.mp z).symm)), List.perm_append_comm.nodup nd.2⟩)
  refine ⟨key.1, key.2, ⟨by rw [hang_kind, hang_kind], by rw [hang_roots, hang_roots], by rw [hang_mark, hang_mark], by rw [hang_key, hang_key], fun j hj => kdE j fun z => hj (by simp [z]), fun j hj => ?_, fun j _ => by rw [hang_rank, hang_rank]⟩, e1⟩
  rw [upE, if_neg (fun z => hj (by simp [T2.tk_mem z])), if_neg (fun z => hj (by simp [T2.tk_mem z]))]
/-- a winner of left gets its sides -/
theorem left_node {M : TM} {k i : Int} {x y : T2} {z : Option Int} (hs : M.kind = .left) (hkey : M.key i = some k) (hkids : M.kids i = some [x.tk, z]) (hr : M.rank i ≠ none) (hu : M.up i ≠ none)
    (hx : At M x) (hy : At M y) (ux : UpOk M (some i) x) (uy : UpIn M y) (nd : (i :: (x.tks ++ y.tks)).Nodup) :
    At ((M.hang i 1 y.tk).swap i x.tk y.tk x.rk y.rk) (sided .left k i x y) ∧ UpIn ((M.hang i 1 y.tk).swap i x.tk y.tk x.rk y.rk) (sided .left k i x y) ∧ Agr M ((M.hang i 1 y.tk).swap i x.tk y.tk x.rk y.rk) (i :: (x.tks ++ y.tks)) ∧
      (M.hang i 1 y.tk).kids i = some [x.tk, y.tk] ∧ rkO (M.hang i 1 y.tk) x.tk = some x.rk ∧ rkO (M.hang i 1 y.tk) y.tk = some y.rk := by
  have e1 : (M.hang i 1 y.tk).kids i = some [x.tk, y.tk] := by rw [hang_kids 1 _ hkids, fset_same]; rfl
  have hk1 : (M.hang i 1 y.tk).kind = .left := by rw [hang_kind]; exact hs
  have rk : ∀ t : T2, At M t → rkO (M.hang i 1 y.tk) t.tk = some t.rk := fun t ht => by
    have := ht.rk hs
    unfold rkO at this ⊢
    split
    · rename_i e; rw [e] at this; exact this
    · rename_i j e; rw [e] at this; rw [hang_rank]; exact this
  have upE : ∀ j, (M.hang i 1 y.tk).up j = if y.tk = some j then some (some i) else M.up j := hang_up 1 _ hkids
  have ux1 : ∀ j, x.tk = some j → M.up j = some (some i) := fun j e => by
    cases x with
    | nil => cases e
    | node _ _ _ _ => cases e; exact ux.1
  have ndl : (i :: (y.tks ++ x.tks)).Nodup := by
    rw [List.nodup_cons] at nd ⊢
    exact ⟨fun z => nd.1 (List.mem_append.mpr ((List.mem_append.mp z).symm)), List.perm_append_comm.nodup nd.2⟩
  have kdE : ∀ j, j ≠ i → (M.hang i 1 y.tk).kids j = M.kids j := fun j hj => by rw [hang_kids 1 _ hkids, fset_ne _ _ hj]
  unfold TM.swap sided
  rw [if_pos hk1]
  have hb : ∀ j, x.tk = some j ∨ y.tk = some j → (M.hang i 1 y.tk).up j = some (some i) := fun j hj => by
    rw [upE]
    split
    · rfl
    · rename_i hne
      rcases hj with h | h
      · exact ux1 j h
      · exact absurd h hne
  have hc : ∀ j, x.tk ≠ some j → y.tk ≠ some j → (M.hang i 1 y.tk).up j = M.up j := fun j _ h2 => by rw [upE, if_neg h2]
  have hd : ∀ j, j ∉ i :: (x.tks ++ y.tks) → (M.hang i 1 y.tk).up j = M.up j := fun j hj => hc j (fun z => hj (by simp [T2.tk_mem z])) (fun z => hj (by simp [T2.tk_mem z]))
  by_cases hlt : x.rk < y.rk
  · rw [if_pos hlt, if_pos hlt]
    have key := mk_node (M := M) (M2 := { M.hang i 1 y.tk with kids := fset (M.hang i 1 y.tk).kids i [y.tk, x.tk], rank := fset (M.hang i 1 y.tk).rank i (1 + x.rk) }) (k := k) (i := i) (a := y) (b := x) (hang_kind ..) (hang_key ..)
      (fun j hj => by show fset _ _ _ j = _; rw [fset_ne _ _ hj]; exact kdE j hj) (fun j hj => by show fset _ _ _ j = _; rw [fset_ne _ _ hj, hang_rank]) (fun j hj => hb j hj.symm) (fun j h1 h2 => hc j h2 h1) (fset_same _ _ _) hkey (fun _ => fset_same _ _ _) (by show fset _ _ _ i ≠ none; rw [fset_same]; simp) hu hy hx uy ux.inn ndl
    refine ⟨key.1, key.2, ⟨hang_kind .., hang_roots .., hang_mark .., hang_key .., fun j hj => ?_, hd, fun j hj => ?_⟩, e1, rk x hx, rk y hy⟩
    · have hji : j ≠ i := fun z => hj (by simp [z])
      show fset _ _ _ j = _
      rw [fset_ne _ _ hji]
      exact kdE j hji
    · have hji : j ≠ i := fun z => hj (by simp [z])
      show fset _ _ _ j = _
      rw [fset_ne _ _ hji, hang_rank]
  · rw [if_neg hlt, if_neg hlt]
    have key := mk_node (M := M) (M2 := { M.hang i 1 y.tk with rank := fset (M.hang i 1 y.tk).rank i (1 + y.rk) }) (k := k) (i := i) (a := x) (b := y) (hang_kind ..) (hang_key ..)
      kdE (fun j hj => by show fset _ _ _ j = _; rw [fset_ne _ _ hj, hang_rank]) hb hc e1 hkey (fun _ => fset_same _ _ _) (by show fset _ _ _ i ≠ none; rw [fset_same]; simp) hu hx hy ux.inn uy nd
    refine ⟨key.1, key.2, ⟨hang_kind .., hang_roots .., hang_mark .., hang_key .., fun j hj => kdE j fun z => hj (by simp [z]), hd, fun j hj => ?_⟩, e1, rk x hx, rk y hy⟩
    have hji : j ≠ i := fun z => hj (by simp [z])
    show fset _ _ _ j = _
    rw [fset_ne _ _ hji, hang_rank]
end Mn

/-! Two trees meet: the walk. -/
namespace Mn
open PySem
theorem forB_cons {F : Sem} {t : Tg} {G : Store → Prop} {b : Cs} {K : Ends} {d : D} {l : List D} {ρ ρ1 : Env} {S : Store} (hG : G S) (hb : t.bind d ρ = some ρ1) (h : wpCs F b { K with nx := forB F t G b K l, ct := forB F t G b K l, bk := K.nx } ρ1 S) : forB F t G b K (d :: l) ρ S := by
  refine ⟨hG, ?_⟩
  rw [hb]
  exact h
theorem forB_nil {F : Sem} {t : Tg} {G : Store → Prop} {b : Cs} {K : Ends} {ρ : Env} {S : Store} (hG : G S) (h : K.nx ρ S) : forB F t G b K [] ρ S := ⟨hG, h⟩
def Two (k : Kd) : Prop := k = .left ∨ k = .skew
/-- one winner is dealt with -/
theorem win_step (n : Nat) {S : Store} {t N : Nat} {B : Nat → Prop} {M : TM} {k i : Int} {x y : T2} {z : Option Int} {K : Ends} {x1 x2 x3 x5 x7 : Option D} (T : Tab S t B N M) (two : Two M.kind) (hkey : M.key i = some k) (hkids : M.kids i = some [x.tk, z]) (hr : M.rank i ≠ none) (hu : M.up i ≠ none)
    (hx : At M x) (hy : At M y) (ux : UpOk M (some i) x) (uy : UpIn M y) (nd : (i :: (x.tks ++ y.tks)).Nodup)
    (q : ∀ S' B' M' x7, Tab S' t B' N M' → Step B B' S S' → At M' (sided M.kind k i x y) → UpIn M' (sided M.kind k i x y) → Agr M M' (i :: (x.tks ++ y.tks)) → K.nx [some (.ref t), x1, x2, x3, some (.int i), x5, some (oI (sided M.kind k i x y).tk), x7] S') :
    wpCs (callN PP (n + 3)) k_meet_3a0 K [some (.ref t), x1, x2, x3, some (.int i), x5, some (oI y.tk), x7] S := by
  have etk : (sided M.kind k i x y).tk = some i := by
    unfold sided
    split
    · rfl
    · split <;> rfl
  rw [etk] at q
  obtain ⟨w, T⟩ := T
  bv_omega
  obtain ⟨b, e1, e2, e3, e4⟩ := kids_at T hkids
  refine attr_go T.ins (tb_kids M w) ?_
  refine ixi_go T.d2 e1 ?_
  refine ixn_go (j := 0) e2 rfl rfl ?_
  ac_rfl
  bv_omega
  refine attr_go T.ins (tb_kind M w) ?_
  refine kd_eq (b := .skew) ?_
  have uy2 : ∀ j, y.tk = some j → M.up j ≠ none := hy.up
  rcases two with hs | hs
  · rw [decide_eq_false (by rw [hs]; simp)]
    show wpCs _ k_meet_3a1b0 _ _ _
    bv_omega
    obtain ⟨p1, p2, p3, p4, p5, p6⟩ := left_node hs hkey hkids hr hu hx hy ux uy nd
    refine meth_go T.ins rfl ?_
    refine hang_ok (n + 2) (p := 1) ⟨w, T⟩ hkids (by simp) uy2 fun S1 T1 st1 => ?_
    ac_rfl
    bv_omega
    refine swap_ok n (i := i) T1 (by rw [hang_rank]; exact hr) p4 (fun _ => p5) (fun _ => p6) fun S2 B2 T2 st2 => ?_
    bv_omega
    rw [hs] at q
    exact q S2 B2 _ _ T2 (st1.trans st2) p1 p2 p3
  · rw [decide_eq_true hs]
    show wpCs _ k_meet_3a1a0 _ _ _
    bv_omega
    obtain ⟨p1, p2, p3, p4⟩ := skew_node hs hkey hkids hr hu hx hy ux.inn uy nd
    refine meth_go T.ins rfl ?_
    refine hang_ok (n + 2) (p := 0) ⟨w, T⟩ hkids (by simp) uy2 fun S1 T1 st1 => ?_
    ac_rfl
    obtain ⟨w1, T1⟩ := T1
    bv_omega
    refine meth_go T1.ins rfl ?_
    refine hang_ok (n + 2) (p := 1) ⟨w1, T1⟩ p4 (by simp) (fun j hj => ?_) fun S2 T2 st2 => ?_
    · rw [hang_up 0 _ hkids]
      split
      · simp
      · exact hx.up j hj
    bv_omega
    rw [hs] at q
    exact q S2 B _ _ T2 (st1.trans st2) p1 p2 p3
theorem unwind (m : Nat) {t N rv : Nat} {L : List D} {x1 x2 x3 x5 : Option D} {K : Ends} : ∀ (n : Nat) (a b : T2) {S : Store} {B : Nat → Prop} {M : TM} (x4 x7 : Option D) (rest : List D), Tab S t B N M → Two M.kind → S[rv]? = some (.lst L) → ¬ B rv → At M a → At M b → UpIn M a → UpIn M b → (a.tks ++ b.tks).Nodup → a.sz + b.sz ≤ n →
    (∀ S' B' M' x4 x7, Tab S' t B' N M' → Step B B' S S' → At M' (meetN M.kind n a b).1 → UpIn M' (meetN M.kind n a b).1 → Agr M M' (a.tks ++ b.tks) → forB (callN PP (m + 3)) (.nm 4) (fun S => lst? S rv = some L) k_meet_3a0 K rest [some (.ref t), x1, x2, x3, x4, x5, some (oI (meetN M.kind n a b).1.tk), x7] S') →
    forB (callN PP (m + 3)) (.nm 4) (fun S => lst? S rv = some L) k_meet_3a0 K ((wins n a b).1.reverse.map D.int ++ rest) [some (.ref t), x1, x2, x3, x4, x5, some (oI (wins n a b).2.tk), x7] S
  | 0, a, b, S, B, M, x4, x7, rest, T, two, gr, nr, ha, hb, ua, ub, nd, hsz, q => q S B M x4 x7 T (Step.refl _ _) ha ua (Agr.refl _ _)
  | n + 1, a, b, S, B, M, x4, x7, rest, T, two, gr, nr, ha, hb, ua, ub, nd, hsz, q => by
    have go : ∀ (k i : Int) (c1 c2 o : T2), At M (.node k i c1 c2) → At M o → UpIn M (.node k i c1 c2) → UpIn M o → ((T2.node k i c1 c2).tks ++ o.tks).Nodup → c2.sz + o.sz ≤ n →
        (∀ S' B' M' x4 x7, Tab S' t B' N M' → Step B B' S S' → At M' (sided M.kind k i c1 (meetN M.kind n c2 o).1) → UpIn M' (sided M.kind k i c1 (meetN M.kind n c2 o).1) → Agr M M' ((T2.node k i c1 c2).tks ++ o.tks) → forB (callN PP (m + 3)) (.nm 4) (fun S => lst? S rv = some L) k_meet_3a0 K rest [some (.ref t), x1, x2, x3, x4, x5, some (oI (sided M.kind k i c1 (meetN M.kind n c2 o).1).tk), x7] S') →
        forB (callN PP (m + 3)) (.nm 4) (fun S => lst? S rv = some L) k_meet_3a0 K ((i :: (wins n c2 o).1).reverse.map D.int ++ rest) [some (.ref t), x1, x2, x3, x4, x5, some (oI (wins n c2 o).2.tk), x7] S := by
      intro k i c1 c2 o hc ho uc uo nd hsz q
      have nd2 : (i :: ((c1.tks ++ c2.tks) ++ o.tks)).Nodup := nd
      obtain ⟨q1, q2, q3, q4, q5, q6, q7⟩ := hc
      rw [List.nodup_cons] at nd2
      have nd3 : (c1.tks ++ (c2.tks ++ o.tks)).Nodup := by rw [← List.append_assoc]; exact nd2.2
      have nd4 := (List.nodup_append.mp nd3).2.1
      rw [List.reverse_cons, List.map_append, List.append_assoc]
      refine unwind m n c2 o x4 x7 _ T two gr nr q7 ho uc.2.inn uo nd4 hsz fun S1 B1 M1 x4' x7' T1 st1 at1 up1 ag1 => ?_
      obtain ⟨gr1, nr1⟩ := st1.get gr nr
      refine forB_cons (lst_of gr1) rfl ?_
      have hi : i ∉ c2.tks ++ o.tks := fun z => nd2.1 (by rw [List.append_assoc]; exact List.mem_append_right _ z)
      have hc1 : ∀ j ∈ c1.tks, j ∉ c2.tks ++ o.tks := fun j hj z => (List.nodup_append.mp nd3).2.2 j hj j z rfl
      have pm := meet_tks M.kind n c2 o hsz
      have nd5 : (i :: (c1.tks ++ (meetN M.kind n c2 o).1.tks)).Nodup := by
        rw [List.nodup_cons]
        refine ⟨fun z => ?_, (pm.append_left c1.tks).symm.nodup nd3⟩
        rcases List.mem_append.mp z with z | z
        · exact nd2.1 (by rw [List.append_assoc]; exact List.mem_append_left _ z)
        · exact hi (pm.mem_iff.mp z)
      refine win_step m (k := k) (i := i) (x := c1) (y := (meetN M.kind n c2 o).1) (z := c2.tk) T1 (by rw [ag1.kind]; exact two) (by rw [ag1.key]; exact q1) (by rw [ag1.kids i hi]; exact q2) (by rw [ag1.rank i hi]; exact q4) (by rw [ag1.up i hi]; exact q5) (ag1.at_ hc1 q6) at1 (ag1.upOk hc1 uc.1) up1 nd5 ?_
      rw [ag1.kind]
      intro S2 B2 M2 x7'' T2 st2 at2 up2 ag2
      refine q S2 B2 M2 _ _ T2 (st1.trans st2) at2 up2 ?_
      refine (ag1.mono fun j hj => ?_).trans (ag2.mono fun j hj => ?_)
      · show j ∈ (i :: (c1.tks ++ c2.tks)) ++ o.tks
        rcases List.mem_append.mp hj with h | h <;> simp [h]
      · show j ∈ (i :: (c1.tks ++ c2.tks)) ++ o.tks
        rcases List.mem_cons.mp hj with h | h
        · simp [h]
        · rcases List.mem_append.mp h with h | h
          · simp [h]
          · rcases List.mem_append.mp (pm.mem_iff.mp h) with h | h <;> simp [h]
    cases b with
    | nil => exact q S B M x4 x7 T (Step.refl _ _) ha ua (Agr.refl _ _)
    | node k' i' b1 b2 =>
      cases a with
      | nil => exact q S B M x4 x7 T (Step.refl _ _) hb ub (Agr.refl _ _)
      | node k i a1 a2 =>
        have hsz : a1.sz + a2.sz + 1 + (b1.sz + b2.sz + 1) ≤ n + 1 := hsz
        unfold wins
        unfold meetN at q
        dsimp only at q ⊢
        by_cases hl : itLt (k', i') (k, i) = true
        · rw [if_pos hl]
          simp only [if_pos hl] at q
          refine go k' i' b1 b2 (.node k i a1 a2) hb ha ub ua (List.perm_append_comm.nodup nd) (by show b2.sz + (a1.sz + a2.sz + 1) ≤ n; omega) fun S' B' M' x4 x7 T' st at' up ag => q S' B' M' x4 x7 T' st at' up (ag.mono fun j hj => ?_)
          exact List.mem_append.mpr ((List.mem_append.mp hj).symm)
        · rw [if_neg hl]
          simp only [if_neg hl] at q
          exact go k i a1 a2 (.node k' i' b1 b2) ha hb ua ub nd (by show a2.sz + (b1.sz + b2.sz + 1) ≤ n; omega) q
theorem rev_go {S : Store} {n : Nat} {l : List D} {Q : DK} (h : S[n]? = some (.lst l)) (q : Q (.ref S.length) (S ++ [.lst l.reverse])) : revD (.ref n) S Q := by
  unfold revD
  rw [lq_of h]
  exact q
theorem isNon_oI (x : Option Int) : isNon (oI x) = x.isNone := by cases x <;> rfl
theorem wins_nil_r (n : Nat) (a : T2) : wins n a .nil = ([], a) := by cases n <;> (unfold wins; rfl)
theorem wins_nil_l (n : Nat) (b : T2) (h : b.sz ≤ n) : wins n .nil b = ([], b) := by
  cases n with
  | zero =>
    cases b with
    | nil => rfl
    | node _ _ x y => (have : x.sz + y.sz + 1 ≤ 0 := h); omega
  | succ n => cases b <;> rfl
theorem meet_ok (m n : Nat) {S : Store} {t N : Nat} {B : Nat → Prop} {M : TM} {a0 b0 : T2} {Q : DK} {X : XK} (T : Tab S t B N M) (two : Two M.kind) (ha : At M a0) (hb : At M b0) (ua : UpIn M a0) (ub : UpIn M b0) (nd : (a0.tks ++ b0.tks).Nodup) (hsz : a0.sz + b0.sz ≤ n) (hn : n ≤ 5000)
    (q : ∀ S' B' M', Tab S' t B' N M' → Step B B' S S' → At M' (meetN M.kind n a0 b0).1 → UpOk M' none (meetN M.kind n a0 b0).1 → Agr M M' (a0.tks ++ b0.tks) → Q (.tup [oI (meetN M.kind n a0 b0).1.tk, .int (meetN M.kind n a0 b0).2]) S') : callN PP (m + 4) f_meet [.ref t, oI a0.tk, oI b0.tk] S Q X := by
  refine enter rfl rfl ?_
  show wpCs _ k_meet_0 _ [some (.ref t), some (oI a0.tk), some (oI b0.tk), none, none, none, none, none] S
  bv_omega
  have nB : ¬ B S.length := fun z => by
    obtain ⟨w, T⟩ := T
    have := T.bnd _ z
    omega
  have T1 := T.push [.lst []]
  bv_omega
  refine whB_at (fun f ρ S' => ∃ (a b : T2) (dn : List Int) (x4 x5 : Option D), ρ = [some (.ref t), some (oI a.tk), some (oI b.tk), some (.ref S.length), x4, x5, none, none] ∧ Tab S' t B N M ∧ S'[S.length]? = some (.lst (dn.map D.int)) ∧ Step B B S S' ∧ At M a ∧ At M b ∧ wins n a0 b0 = (dn ++ (wins f a b).1, (wins f a b).2) ∧ a.sz + b.sz ≤ f ∧ dn.length + f ≤ n ∧ (a.tks ++ b.tks).Nodup) ?_ n ?_
  · rintro f ρ S' ⟨a, b, dn, x4, x5, rfl, Tb, gw, st, ha2, hb2, ew, hs2, hdn, nd0⟩ N2 hN2
    -- the way up
    have fin : (wins f a b).1 = [] → wpCs (callN PP (m + 3)) k_meet_3 ⟨fun _ S => Q .non S, Q, fun _ _ => False, fun _ _ => False, X⟩ [some (.ref t), some (oI a.tk), some (oI b.tk), some (.ref S.length), x4, x5, some (oI (wins f a b).2.tk), none] S' := by
      intro ee
      rw [ee, List.append_nil] at ew
      bv_omega
      refine rev_go gw ?_
      refine it_lst (last_get _ _) ?_
      have nrv : ¬ B S'.length := fun z => by
        obtain ⟨w, Tb⟩ := Tb
        have := Tb.bnd _ z
        omega
      have gw2 := get_push gw [.lst (dn.map D.int).reverse]
      have key := unwind m (K := ⟨fun ρ1 S1 => wpCs (callN PP (m + 3)) k_meet_4 ⟨fun _ S => Q .non S, Q, fun _ _ => False, fun _ _ => False, X⟩ ρ1 S1, Q, fun _ _ => False, fun _ _ => False, X⟩) (x1 := some (oI a.tk)) (x2 := some (oI b.tk)) (x3 := some (.ref S.length)) (x5 := x5) n a0 b0 x4 none [] (Tb.push [.lst (dn.map D.int).reverse]) two (last_get _ _) nrv ha hb ua ub nd hsz fun S3 B3 M3 y4 y7 T3 st3 at3 up3 ag3 => ?_
      · rw [ew, List.append_nil] at key
        dsimp only at key
        rw [List.map_reverse] at key
        exact key
      · obtain ⟨gw3, nw3⟩ := st3.get gw2 nB
        obtain ⟨grv3, _⟩ := st3.get (last_get _ _) nrv
        refine forB_nil (lst_of grv3) ?_
        have hwl : dn.length = (meetN M.kind n a0 b0).2 := by rw [← wins_len M.kind n a0 b0, ew]
        have stt : Step B B3 S S3 := (st.trans (Step.push _)).trans st3
        have fin2 : ∀ S4 M4, Tab S4 t B3 N M4 → Step B3 B3 S3 S4 → At M4 (meetN M.kind n a0 b0).1 → UpOk M4 none (meetN M.kind n a0 b0).1 → Agr M3 M4 (a0.tks ++ b0.tks) → ∀ y4 y7, wpCs (callN PP (m + 3)) k_meet_5 ⟨fun _ S => Q .non S, Q, fun _ _ => False, fun _ _ => False, X⟩ [some (.ref t), some (oI a.tk), some (oI b.tk), some (.ref S.length), y4, x5, some (oI (meetN M.kind n a0 b0).1.tk), y7] S4 := by
          intro S4 M4 T4 st4 at4 up4 ag4 y4 y7
          bv_omega
          obtain ⟨gw4, _⟩ := st4.get gw3 nw3
          refine len_go gw4 (by rw [List.length_map]; omega) ?_
          ac_rfl
          rw [List.length_map, hwl]
          exact q S4 B3 M4 T4 (stt.trans st4) at4 up4 (ag3.trans ag4)
        bv_omega
        rw [isNon_oI]
        cases hr : (meetN M.kind n a0 b0).1 with
        | nil =>
          rw [hr] at fin2 at3
          exact fin2 S3 M3 T3 (Step.refl _ _) at3 trivial (Agr.refl _ _) _ _
        | node k i c1 c2 =>
          have pm := meet_tks M.kind n a0 b0 hsz
          rw [hr] at fin2 at3 up3 pm
          have him : i ∈ a0.tks ++ b0.tks := pm.mem_iff.mp (by simp [T2.tks])
          have nd2 : (i :: (c1.tks ++ c2.tks)).Nodup := pm.symm.nodup nd
          rw [List.nodup_cons] at nd2
          show wpCs _ k_meet_4a0 _ _ _
          obtain ⟨w3, T3⟩ := T3
          bv_omega
          refine attr_go T3.ins (tb_ups _ _) ?_
          obtain ⟨l1, l2, l3, l4, l5, l6⟩ := T3.len
          have cap := T3.cap
          refine seti_go T3.d3 (by omega) ?_
          have hs : (dGet w3.k3 (.inl i)).isSome = true := by
            rw [T3.g3]
            cases hr : M3.up i with
            | none => exact absurd hr at3.2.2.2.2.1
            | some _ => rfl
          have T4 := T3.set3 i none (Nat.le_refl _) (by rw [dPut_same hs]; exact l3) cap
          have at4 : At { M3 with up := fset M3.up i none } (.node k i c1 c2) := by
            refine At.congr (M := M3) (M' := { M3 with up := fset M3.up i none }) rfl (fun j _ => ⟨rfl, rfl, rfl, fun h => ?_⟩) at3
            show fset M3.up i none j ≠ none
            unfold fset
            split
            · simp
            · exact h
          have up4 : UpOk { M3 with up := fset M3.up i none } none (.node k i c1 c2) := by
            refine ⟨fset_same _ _ _, UpOk.congr (M := M3) (fun j hj => fset_ne _ _ fun z => ?_) up3.1, UpOk.congr (M := M3) (fun j hj => fset_ne _ _ fun z => ?_) up3.2⟩
            · subst z; exact nd2.1 (List.mem_append_left _ hj)
            · subst z; exact nd2.1 (List.mem_append_right _ hj)
          exact fin2 _ { M3 with up := fset M3.up i none } ⟨_, T4⟩ (Step.set _ T3.own.2.2.2.1) at4 up4 ⟨rfl, rfl, rfl, rfl, fun _ _ => rfl, fun j hj => fset_ne _ _ fun z => hj (z ▸ him), fun _ _ => rfl⟩ _ _
    ac_rfl
    rw [isNon_oI]
    cases a with
    | nil =>
      show wpCs _ k_meet_2 _ _ _
      bv_omega
      rw [isNon_oI]
      have e := wins_nil_l f b (by have : 0 + b.sz ≤ f := hs2; omega)
      rw [e] at fin
      cases b with
      | nil => exact fin rfl
      | node _ _ _ _ => exact fin rfl
    | node k i a1 a2 =>
      ac_rfl
      rw [isNon_oI]
      cases b with
      | nil =>
        show wpCs _ k_meet_2 _ _ _
        bv_omega
        rw [wins_nil_r] at fin
        exact fin rfl
      | node k' i' b1 b2 =>
        show wpCs _ k_meet_1a0 _ _ _
        have hs3 : a1.sz + a2.sz + 1 + (b1.sz + b2.sz + 1) ≤ f := hs2
        obtain ⟨f', rfl⟩ : ∃ f', f = f' + 1 := ⟨f - 1, by omega⟩
        obtain ⟨w2, Tb⟩ := Tb
        bv_omega
        refine meth_go Tb.ins rfl ?_
        refine sorted_two_ok m ⟨w2, Tb⟩ ha2.1 hb2.1 ?_
        have go : ∀ (k i : Int) (c1 c2 o : T2) (io : Int), o.tk = some io → At M (.node k i c1 c2) → At M o → c2.sz + o.sz ≤ f' → (c2.tks ++ o.tks).Nodup → wins n a0 b0 = (dn ++ i :: (wins f' c2 o).1, (wins f' c2 o).2) → ∀ x1 x2, wpCs (callN PP (m + 3)) k_meet_1a1 ⟨N2, Q, fun ρ1 S1 => wpCs (callN PP (m + 3)) k_meet_2 ⟨fun _ S => Q .non S, Q, fun _ _ => False, fun _ _ => False, X⟩ ρ1 S1, N2, X⟩ [some (.ref t), x1, x2, some (.ref S.length), some (.int i), some (.int io), none, none] S' := by
          intro k i c1 c2 o io eo hc ho hsz2 nd9 ew2 x1 x2
          bv_omega
          refine ⟨recv_l gw, append_go gw (by rw [List.length_map]; omega) ?_⟩
          ac_rfl
          have gw2 := get_set (o' := .lst (dn.map D.int ++ [.int i])) gw
          have T3 := (show Tab S' t B N M from ⟨w2, Tb⟩).setO (.lst (dn.map D.int ++ [.int i])) nB
          obtain ⟨w3, T3⟩ := T3
          bv_omega
          obtain ⟨b, e1, e2, e3, e4⟩ := kids_at T3 hc.2.1
          refine attr_go T3.ins (tb_kids M w3) ?_
          refine ixi_go T3.d2 e1 ?_
          refine ixn_go (j := 1) e2 rfl rfl ?_
          ac_rfl
          refine hN2 f' _ _ (Nat.lt_succ_self _) ⟨c2, o, dn ++ [i], _, _, by rw [eo]; rfl, ⟨w3, T3⟩, by rw [gw2]; simp, ⟨fun j h => .inl h, by rw [List.length_set]; exact st.len, fun j hj hb => ?_⟩, hc.2.2.2.2.2.2, ho, by rw [ew2]; simp, hsz2, by simp; omega, nd9⟩
          rw [List.getElem?_set_ne (by omega)]
          exact st.frm j hj hb
        have nd0' : ((i :: (a1.tks ++ a2.tks)) ++ (i' :: (b1.tks ++ b2.tks))).Nodup := nd0
        have hne : i ≠ i' := fun z => (List.nodup_append.mp nd0').2.2 i (by simp) i' (by simp) z
        have nd8 : (a2.tks ++ (T2.node k' i' b1 b2).tks).Nodup := by
          refine List.Sublist.nodup ?_ nd0'
          exact List.Sublist.append_right (List.Sublist.cons _ (List.sublist_append_right _ _)) _
        have nd7 : (b2.tks ++ (T2.node k i a1 a2).tks).Nodup := by
          refine List.Sublist.nodup ?_ (List.perm_append_comm.nodup nd0')
          exact List.Sublist.append_right (List.Sublist.cons _ (List.sublist_append_right _ _)) _
        have ewn : wins (f' + 1) (.node k i a1 a2) (.node k' i' b1 b2) = if itLt (k', i') (k, i) = true then (i' :: (wins f' b2 (.node k i a1 a2)).1, (wins f' b2 (.node k i a1 a2)).2) else (i :: (wins f' a2 (.node k' i' b1 b2)).1, (wins f' a2 (.node k' i' b1 b2)).2) := rfl
        rw [ewn] at ew
        by_cases hl : itLt (k', i') (k, i) = true
        · rw [if_pos hl] at ew
          have hl2 : ¬ itLt (k, i) (k', i') = true := by
            unfold itLt at hl ⊢
            simp at hl ⊢
            omega
          rw [if_neg hl2]
          ac_rfl
          exact go k' i' b1 b2 (.node k i a1 a2) i rfl hb2 ha2 (by show b2.sz + (a1.sz + a2.sz + 1) ≤ f'; omega) nd7 ew _ _
        · rw [if_neg hl] at ew
          have hl2 : itLt (k, i) (k', i') = true := by
            unfold itLt at hl ⊢
            simp at hl ⊢
            omega
          rw [if_pos hl2]
          ac_rfl
          exact go k i a1 a2 (.node k' i' b1 b2) i' rfl ha2 hb2 (by show a2.sz + (b1.sz + b2.sz + 1) ≤ f'; omega) nd8 ew _ _
  · exact ⟨a0, b0, [], _, _, rfl, T1, last_get _ _, Step.push _, ha, hb, rfl, hsz, by simp, nd⟩
end Mn

/-! A tree within another one: what stands around it, from the inside out. -/
namespace Mn
open PySem
/-- a frame: its item, on which side the tree stands, the other side -/
structure Fr2 where
  k : Int
  j : Int
  one : Bool
  sib : T2
def Fr2.plug (f : Fr2) (t : T2) : T2 := if f.one then .node f.k f.j t f.sib else .node f.k f.j f.sib t
def plug : List Fr2 → T2 → T2
  | [], t => t
  | f :: fs, t => plug fs (f.plug t)
/-- sides change where they must -/
def resid (kd : Kd) : T2 → T2
  | .nil => .nil
  | .node k i a b => if kd = .left ∧ a.rk < b.rk then .node k i b a else .node k i a b
theorem resid_node (kd : Kd) (k i : Int) (a b : T2) : resid kd (.node k i a b) = if kd = .left ∧ a.rk < b.rk then .node k i b a else .node k i a b := rfl
def plugS (kd : Kd) : List Fr2 → T2 → T2
  | [], t => t
  | f :: fs, t => plugS kd fs (resid kd (f.plug t))
def frT : List Fr2 → List Int
  | [] => []
  | f :: fs => f.j :: (f.sib.tks ++ frT fs)
theorem frplug_tks (f : Fr2) (t : T2) : (f.plug t).tks.Perm (f.j :: (t.tks ++ f.sib.tks)) := by
  unfold Fr2.plug
  split
  · exact List.Perm.refl _
  · exact List.Perm.cons _ List.perm_append_comm
theorem plug_tks : ∀ (fs : List Fr2) (t : T2), (plug fs t).tks.Perm (t.tks ++ frT fs)
  | [], t => by
    show t.tks.Perm (t.tks ++ [])
    rw [List.append_nil]
  | f :: fs, t => by
    refine (plug_tks fs (f.plug t)).trans ?_
    refine ((frplug_tks f t).append_right _).trans ?_
    show (f.j :: (t.tks ++ f.sib.tks) ++ frT fs).Perm (t.tks ++ (f.j :: (f.sib.tks ++ frT fs)))
    refine List.Perm.trans ?_ List.perm_middle.symm
    simp
theorem resid_tks (kd : Kd) (t : T2) : (resid kd t).tks.Perm t.tks := by
  cases t with
  | nil => exact List.Perm.refl _
  | node k i a b =>
    rw [resid_node]
    split
    · exact List.Perm.cons _ List.perm_append_comm
    · exact List.Perm.refl _
theorem plugS_tks (kd : Kd) : ∀ (fs : List Fr2) (t : T2), (plugS kd fs t).tks.Perm (t.tks ++ frT fs)
  | [], t => by
    show t.tks.Perm (t.tks ++ [])
    rw [List.append_nil]
  | f :: fs, t => by
    refine (plugS_tks kd fs _).trans ?_
    refine (((resid_tks kd _).trans (frplug_tks f t)).append_right _).trans ?_
    show (f.j :: (t.tks ++ f.sib.tks) ++ frT fs).Perm (t.tks ++ (f.j :: (f.sib.tks ++ frT fs)))
    refine List.Perm.trans ?_ List.perm_middle.symm
    simp
/-- a frame's list of sides -/
def Fr2.kids (f : Fr2) (c : Option Int) : List (Option Int) := if f.one then [c, f.sib.tk] else [f.sib.tk, c]
/-- the frame itself is laid out; its inner side holds c -/
structure FrAt (M : TM) (f : Fr2) (c : Option Int) : Prop where
  key : M.key f.j = some f.k
  kids : M.kids f.j = some (f.kids c)
  rank : M.rank f.j ≠ none
  upn : M.up f.j ≠ none
  sib : At M f.sib
  usib : UpOk M (some f.j) f.sib
/-- the frames around a tree of the ticket c -/
def FrOk (M : TM) : Int → List Fr2 → Prop
  | c, [] => M.up c = some none
  | c, f :: fs => M.up c = some (some f.j) ∧ FrAt M f (some c) ∧ FrOk M f.j fs
theorem frok_of {M : TM} : ∀ (fs : List Fr2) {t : T2} {c : Int}, t.tk = some c → At M (plug fs t) → UpOk M none (plug fs t) → FrOk M c fs ∧ At M t ∧ UpIn M t
  | [], t, c, e, a, u => by
    cases t with
    | nil => cases e
    | node k i x y =>
      cases e
      exact ⟨u.1, a, u.2⟩
  | f :: fs, t, c, e, a, u => by
    have e2 : (f.plug t).tk = some f.j := by unfold Fr2.plug; split <;> rfl
    obtain ⟨h1, h2, h3⟩ := frok_of fs e2 a u
    have hu : M.up f.j ≠ none := h2.up f.j e2
    cases t with
    | nil => cases e
    | node k i x y =>
      cases e
      unfold Fr2.plug at h2 h3
      cases ho : f.one with
      | true =>
        rw [ho] at h2 h3
        obtain ⟨q1, q2, q3, q4, q5, q6, q7⟩ := h2
        exact ⟨⟨h3.1.1, ⟨q1, by unfold Fr2.kids; rw [ho]; exact q2, q4, q5, q7, h3.2⟩, h1⟩, q6, h3.1.2⟩
      | false =>
        rw [ho] at h2 h3
        obtain ⟨q1, q2, q3, q4, q5, q6, q7⟩ := h2
        exact ⟨⟨h3.2.1, ⟨q1, by unfold Fr2.kids; rw [ho]; exact q2, q4, q5, q6, h3.1⟩, h1⟩, q7, h3.2.2⟩
theorem FrAt.congr {M M' : TM} {f : Fr2} {c : Option Int} {l : List Int} (a : Agr M M' l) (hj : f.j ∉ l) (hs : ∀ i ∈ f.sib.tks, i ∉ l) (h : FrAt M f c) : FrAt M' f c :=
  ⟨by rw [a.key]; exact h.key, by rw [a.kids _ hj]; exact h.kids, by rw [a.rank _ hj]; exact h.rank, by rw [a.up _ hj]; exact h.upn, a.at_ hs h.sib, a.upOk hs h.usib⟩
theorem FrOk.congr {M M' : TM} {l : List Int} (a : Agr M M' l) : ∀ {fs : List Fr2} {c : Int}, c ∉ l → (∀ i ∈ frT fs, i ∉ l) → FrOk M c fs → FrOk M' c fs
  | [], c, hc, _, h => by
    show M'.up c = some none
    rw [a.up c hc]
    exact h
  | f :: fs, c, hc, hl, h => by
    have hj : f.j ∉ l := hl f.j (by simp [frT])
    refine ⟨by rw [a.up c hc]; exact h.1, h.2.1.congr a hj (fun i hi => hl i (by simp [frT, hi])), h.2.2.congr a hj fun i hi => hl i (by simp [frT, hi])⟩
/-- one tree above is dealt with -/
theorem up_step (n : Nat) {S : Store} {t N : Nat} {B : Nat → Prop} {M : TM} {f : Fr2} {r : T2} {Q : DK} {X : XK} (T : Tab S t B N M) (two : Two M.kind) (fa : FrAt M f r.tk) (hr : At M r) (ur : UpOk M (some f.j) r) (nd : (f.j :: (r.tks ++ f.sib.tks)).Nodup)
    (q : ∀ S' B' M', Tab S' t B' N M' → Step B B' S S' → At M' (resid M.kind (f.plug r)) → UpIn M' (resid M.kind (f.plug r)) → Agr M M' [f.j] → M'.up = M.up → Q .non S') : callN PP (n + 3) f_swap_sides [.ref t, .int f.j] S Q X := by
  have core : ∀ (x y : T2), f.plug r = .node f.k f.j x y → M.kids f.j = some [x.tk, y.tk] → At M x → At M y → UpOk M (some f.j) x → UpOk M (some f.j) y → (f.j :: (x.tks ++ y.tks)).Nodup → callN PP (n + 3) f_swap_sides [.ref t, .int f.j] S Q X := by
    intro x y ep hk hx hy ux uy nd
    refine swap_ok n (i := f.j) (rx := x.rk) (ry := y.rk) T fa.rank hk (fun z => hx.rk z) (fun z => hy.rk z) fun S1 B1 T1 st1 => ?_
    rw [ep] at q
    have hux : ∀ j, x.tk = some j → M.up j = some (some f.j) := fun j e => by
      cases x with
      | nil => cases e
      | node _ _ _ _ => cases e; exact ux.1
    have huy : ∀ j, y.tk = some j → M.up j = some (some f.j) := fun j e => by
      cases y with
      | nil => cases e
      | node _ _ _ _ => cases e; exact uy.1
    have ndl : (f.j :: (y.tks ++ x.tks)).Nodup := by
      rw [List.nodup_cons] at nd ⊢
      exact ⟨fun z => nd.1 (List.mem_append.mpr ((List.mem_append.mp z).symm)), List.perm_append_comm.nodup nd.2⟩
    unfold TM.swap at T1
    rw [resid_node] at q
    by_cases hk1 : M.kind = .left
    · rw [if_pos hk1] at T1
      by_cases hlt : x.rk < y.rk
      · rw [if_pos hlt] at T1
        rw [if_pos ⟨hk1, hlt⟩] at q
        have key := mk_node (M := M) (M2 := { M with kids := fset M.kids f.j [y.tk, x.tk], rank := fset M.rank f.j (1 + x.rk) }) (k := f.k) (i := f.j) (a := y) (b := x) rfl rfl
          (fun j hj => fset_ne _ _ hj) (fun j hj => fset_ne _ _ hj) (fun j hj => hj.elim (huy j) (hux j)) (fun _ _ _ => rfl) (fset_same _ _ _) fa.key (fun _ => fset_same _ _ _) (by show fset _ _ _ f.j ≠ none; rw [fset_same]; simp) fa.upn hy hx uy.inn ux.inn ndl
        refine q S1 B1 _ T1 st1 key.1 key.2 ⟨rfl, rfl, rfl, rfl, fun j hj => fset_ne _ _ (by simpa using hj), fun _ _ => rfl, fun j hj => fset_ne _ _ (by simpa using hj)⟩ rfl
      · rw [if_neg hlt] at T1
        rw [if_neg (fun z => hlt z.2)] at q
        have key := mk_node (M := M) (M2 := { M with rank := fset M.rank f.j (1 + y.rk) }) (k := f.k) (i := f.j) (a := x) (b := y) rfl rfl
          (fun _ _ => rfl) (fun j hj => fset_ne _ _ hj) (fun j hj => hj.elim (hux j) (huy j)) (fun _ _ _ => rfl) hk fa.key (fun _ => fset_same _ _ _) (by show fset _ _ _ f.j ≠ none; rw [fset_same]; simp) fa.upn hx hy ux.inn uy.inn nd
        refine q S1 B1 _ T1 st1 key.1 key.2 ⟨rfl, rfl, rfl, rfl, fun _ _ => rfl, fun _ _ => rfl, fun j hj => fset_ne _ _ (by simpa using hj)⟩ rfl
    · rw [if_neg hk1] at T1
      rw [if_neg (fun z => hk1 z.1)] at q
      have key := mk_node (M := M) (M2 := M) (k := f.k) (i := f.j) (a := x) (b := y) rfl rfl (fun _ _ => rfl) (fun _ _ => rfl) (fun j hj => hj.elim (hux j) (huy j)) (fun _ _ _ => rfl) hk fa.key (fun z => absurd z hk1) fa.rank fa.upn hx hy ux.inn uy.inn nd
      exact q S1 B1 _ T1 st1 key.1 key.2 (Agr.refl _ _) rfl
  have ndl : (f.j :: (f.sib.tks ++ r.tks)).Nodup := by
    rw [List.nodup_cons] at nd ⊢
    exact ⟨fun z => nd.1 (List.mem_append.mpr ((List.mem_append.mp z).symm)), List.perm_append_comm.nodup nd.2⟩
  have hk := fa.kids
  unfold Fr2.kids at hk
  cases ho : f.one with
  | true => exact core r f.sib (by unfold Fr2.plug; rw [ho]; rfl) (by rw [ho] at hk; exact hk) hr fa.sib ur fa.usib nd
  | false => exact core f.sib r (by unfold Fr2.plug; rw [ho]; rfl) (by rw [ho] at hk; exact hk) fa.sib hr fa.usib ur ndl
end Mn

namespace Mn
open PySem
theorem frplug_tk (f : Fr2) (r : T2) : (f.plug r).tk = some f.j := by unfold Fr2.plug; split <;> rfl
theorem resid_tk (kd : Kd) (t : T2) : (resid kd t).tk = t.tk := by
  cases t with
  | nil => rfl
  | node k i a b => rw [resid_node]; split <;> rfl
theorem index_oI_go {S : Store} {n : Nat} {l : List (Option Int)} {c : Int} {j : Nat} {Q : DK} (h : S[n]? = some (.lst (l.map oI))) (e : idx? (.int c) (l.map oI) = some j) (q : Q (.int j) S) : bm .index (.ref n) [.int c] S Q := by
  show mIndex (.ref n) [.int c] S Q
  unfold mIndex
  dsimp only
  rw [lq_of h]
  dsimp only
  rw [e]
  refine ⟨rfl, ?_, q⟩
  rw [List.all_eq_true]
  intro d hd
  obtain ⟨a, _, rfl⟩ := List.mem_map.mp hd
  cases a <;> rfl
/-- on which place of the frame's list the tree stands -/
def Fr2.pl (f : Fr2) : Nat := if f.one then 0 else 1
theorem fr_idx {f : Fr2} {c : Int} (h : c ∉ f.sib.tks) : idx? (.int c) ((f.kids (some c)).map oI) = some f.pl := by
  unfold Fr2.kids Fr2.pl
  cases f.one with
  | true =>
    show (if D.sEq (.int c) (.int c) = true then some 0 else _) = _
    rw [if_pos (by simp [D.sEq])]
    rfl
  | false =>
    have hne : D.sEq (oI f.sib.tk) (.int c) = false := by
      cases hs : f.sib.tk with
      | none => rfl
      | some i =>
        show (i == c) = false
        have : i ≠ c := fun z => h (z ▸ T2.tk_mem hs)
        simpa using this
    show (if D.sEq (oI f.sib.tk) (.int c) = true then some 0 else (if D.sEq (.int c) (.int c) = true then some 0 else _).map (· + 1)) = _
    rw [hne, if_neg (by simp), if_pos (by simp [D.sEq])]
    rfl
theorem fr_set (f : Fr2) (c x : Option Int) : (f.kids c).set f.pl x = f.kids x := by
  unfold Fr2.kids Fr2.pl
  cases f.one <;> rfl
theorem fr_len (f : Fr2) (c : Option Int) : f.pl < (f.kids c).length := by
  unfold Fr2.kids Fr2.pl
  cases f.one <;> simp
/-- the trees above change sides, one after the other -/
theorem ups_loop (m : Nat) {t N : Nat} {c : D} {x2 : Option D} {Q : DK} {X : XK} (fs : List Fr2) {f : Fr2} {r : T2} {S : Store} {B : Nat → Prop} {M : TM} (T : Tab S t B N M) (two : Two M.kind) (fa : FrAt M f r.tk) (hr : At M r) (ur : UpOk M (some f.j) r) (fo : FrOk M f.j fs) (nd : (r.tks ++ frT (f :: fs)).Nodup)
    (q : ∀ S' B' M', Tab S' t B' N M' → Step B B' S S' → At M' (plugS M.kind (f :: fs) r) → UpOk M' none (plugS M.kind (f :: fs) r) → Agr M M' (r.tks ++ frT (f :: fs)) → Q .non S') :
    wpCs (callN PP (m + 3)) k_replace_3 ⟨fun _ S => Q .non S, Q, fun _ _ => False, fun _ _ => False, X⟩ [some (.ref t), some c, x2, some (.int f.j)] S := by
  bv_omega
  refine whB_at (fun n ρ S' => (∃ (f' : Fr2) (fs' : List Fr2) (r' : T2) (B' : Nat → Prop) (M' : TM), ρ = [some (.ref t), some c, x2, some (.int f'.j)] ∧ n = fs'.length + 1 ∧ Tab S' t B' N M' ∧ Step B B' S S' ∧ FrAt M' f' r'.tk ∧ At M' r' ∧ UpOk M' (some f'.j) r' ∧ FrOk M' f'.j fs' ∧ (r'.tks ++ frT (f' :: fs')).Nodup ∧ plugS M.kind (f' :: fs') r' = plugS M.kind (f :: fs) r ∧ Agr M M' (r.tks ++ frT (f :: fs)) ∧ (∀ i ∈ r'.tks ++ frT (f' :: fs'), i ∈ r.tks ++ frT (f :: fs)))
      ∨ ∃ (B' : Nat → Prop) (M' : TM), ρ = [some (.ref t), some c, x2, some .non] ∧ Tab S' t B' N M' ∧ Step B B' S S' ∧ At M' (plugS M.kind (f :: fs) r) ∧ UpOk M' none (plugS M.kind (f :: fs) r) ∧ Agr M M' (r.tks ++ frT (f :: fs))) ?_ (fs.length + 1) (.inl ⟨f, fs, r, B, M, rfl, rfl, T, Step.refl _ _, fa, hr, ur, fo, nd, rfl, Agr.refl _ _, fun _ h => h⟩)
  rintro n ρ S' (⟨f', fs', r', B', M', rfl, rfl, T', st, fa', hr', ur', fo', nd', ep, ag, sub⟩ | ⟨B', M', rfl, T', st, a1, a2, a3⟩) N2 hN2
  · ac_rfl
    show wpCs _ k_replace_3a0 _ _ _
    bv_omega
    have ndf : (f'.j :: (r'.tks ++ f'.sib.tks)).Nodup := by
      have p : (r'.tks ++ frT (f' :: fs')).Perm ((f'.j :: (r'.tks ++ f'.sib.tks)) ++ frT fs') := by
        show (r'.tks ++ (f'.j :: (f'.sib.tks ++ frT fs'))).Perm _
        refine List.perm_middle.trans ?_
        simp
      exact (List.nodup_append.mp (p.nodup nd')).1
    have p2 : (r'.tks ++ frT (f' :: fs')).Perm ((resid M.kind (f'.plug r')).tks ++ frT fs') := by
      refine List.Perm.symm ?_
      refine (((resid_tks _ _).trans (frplug_tks f' r')).append_right _).trans ?_
      show (f'.j :: (r'.tks ++ f'.sib.tks) ++ frT fs').Perm (r'.tks ++ (f'.j :: (f'.sib.tks ++ frT fs')))
      refine List.Perm.trans ?_ List.perm_middle.symm
      simp
    refine up_step m T' (by rw [ag.kind]; exact two) fa' hr' ur' ndf fun S2 B2 M2 Tb st2 at2 up2 ag2 eu => ?_
    rw [ag.kind] at at2 up2
    obtain ⟨w2, Tb⟩ := Tb
    bv_omega
    refine attr_go Tb.ins (tb_ups _ _) ?_
    have hfs : ∀ i ∈ frT fs', i ∉ [f'.j] := fun i hi z => by
      have : i = f'.j := by simpa using z
      subst this
      have h := (List.nodup_append.mp nd').2.1
      have h2 : (f'.j :: (f'.sib.tks ++ frT fs')).Nodup := h
      rw [List.nodup_cons] at h2
      exact h2.1 (List.mem_append_right _ hi)
    have agg : Agr M M2 (r.tks ++ frT (f :: fs)) := by
      refine ag.trans (ag2.mono fun i hi => sub i ?_)
      have z : i = f'.j := by simpa using hi
      subst z
      simp [frT]
    cases fs' with
    | nil =>
      have fo2 : M2.up f'.j = some none := by rw [eu]; exact fo'
      refine ixi_go Tb.d3 (Tb.g3.some fo2) ?_
      ac_rfl
      refine hN2 0 _ _ (by simp) (.inr ⟨B2, M2, rfl, ⟨w2, Tb⟩, st.trans st2, ?_, ?_, agg⟩)
      · rw [← ep]; exact at2
      · rw [← ep]
        show UpOk M2 none (resid M.kind (f'.plug r'))
        have e := (resid_tk M.kind (f'.plug r')).trans (frplug_tk f' r')
        generalize resid M.kind (f'.plug r') = R at *
        cases R with
        | nil => trivial
        | node k i x y => cases e; exact ⟨fo2, up2⟩
    | cons f2 fs2 =>
      have fo2 : M2.up f'.j = some (some f2.j) := by rw [eu]; exact fo'.1
      refine ixi_go Tb.d3 (Tb.g3.some fo2) ?_
      ac_rfl
      have e := (resid_tk M.kind (f'.plug r')).trans (frplug_tk f' r')
      have fa2 : FrAt M2 f2 (some f'.j) := fo'.2.1.congr ag2 (hfs _ (by simp [frT])) fun i hi => hfs i (by simp [frT, hi])
      have fo3 : FrOk M2 f2.j fs2 := fo'.2.2.congr ag2 (hfs _ (by simp [frT])) fun i hi => hfs i (by simp [frT, hi])
      refine hN2 (fs2.length + 1) _ _ (by simp) (.inl ⟨f2, fs2, resid M.kind (f'.plug r'), B2, M2, rfl, rfl, ⟨w2, Tb⟩, st.trans st2, by rw [e]; exact fa2, at2, ?_, fo3, p2.nodup nd', ep, agg, fun i hi => sub i (p2.mem_iff.mpr hi)⟩)
      generalize resid M.kind (f'.plug r') = R at *
      cases R with
      | nil => trivial
      | node k i x y => cases e; exact ⟨fo2, up2⟩
  · ac_rfl
    exact q S' B' M' T' st a1 a2 a3
end Mn

namespace Mn
open PySem
theorem up_look {S : Store} {t N : Nat} {B : Nat → Prop} {M : TM} {w : TW} (T : TabW S t B N M w) {c : Int} {p : Option Int} (h : M.up c = some p) {Q : DK} (q : Q (oI p) S) : attrD 0 "ups" (.ref t) S fun x S1 => ixD x (.int c) S1 Q := by
  refine attr_go T.ins (tb_ups _ _) ?_
  exact ixi_go T.d3 (T.g3.some h) q
/-- where a tree stands another one stands now -/
theorem replace_ok (m : Nat) {t N : Nat} {c : Int} {r : T2} (fs : List Fr2) {Q : DK} {X : XK} {S : Store} {B : Nat → Prop} {M : TM} (T : Tab S t B N M) (hN : 1 ≤ N) (two : Two M.kind) (fo : FrOk M c fs) (hr : At M r) (ur : UpOk M none r) (nd : (r.tks ++ frT fs).Nodup) (hc : c ∉ frT fs)
    (q : ∀ S' B' M', Tab S' t B' N M' → Step B B' S S' → At M' (plugS M.kind fs r) → UpOk M' none (plugS M.kind fs r) → Agr { M with roots := M'.roots } M' (r.tks ++ frT fs) → (fs = [] → M'.roots = r.tk.toList) → (fs ≠ [] → M'.roots = M.roots) → Q .non S') :
    callN PP (m + 4) f_replace [.ref t, .int c, oI r.tk] S Q X := by
  obtain ⟨w, T⟩ := T
  refine enter rfl rfl ?_
  show wpCs _ k_replace_0 _ [some (.ref t), some (.int c), some (oI r.tk), none] S
  bv_omega
  cases fs with
  | nil =>
    refine up_look T (p := none) fo ?_
    ac_rfl
    bv_omega
    rw [isNon_oI]
    show wpCs _ k_replace_1a0 _ _ _
    bv_omega
    refine set_root_ok (m + 2) ⟨w, T⟩ hN fun S1 B1 T1 st1 => ?_
    bv_omega
    exact q S1 B1 _ T1 st1 (At.congr (M := M) (M' := { M with roots := r.tk.toList }) rfl (fun j _ => ⟨rfl, rfl, rfl, fun h => h⟩) hr) (UpOk.congr (M := M) (M' := { M with roots := r.tk.toList }) (fun _ _ => rfl) ur) (Agr.refl _ _) (fun _ => rfl) (fun z => absurd rfl z)
  | cons f fs =>
    obtain ⟨f1, f2, f3⟩ := fo
    refine up_look T (p := some f.j) f1 ?_
    ac_rfl
    bv_omega
    rw [isNon_oI]
    show wpCs _ k_replace_2 _ _ _
    bv_omega
    refine meth_go T.ins rfl ?_
    obtain ⟨b, e1, e2, e3, e4⟩ := kids_at T f2.kids
    refine attr_go T.ins (tb_kids M w) ?_
    refine ixi_go T.d2 e1 ?_
    refine ⟨recv_l e2, ?_⟩
    have hcs : c ∉ f.sib.tks := fun z => hc (by simp [frT, z])
    refine index_oI_go e2 (fr_idx hcs) ?_
    ac_rfl
    have hnd : (r.tks ++ (f.j :: (f.sib.tks ++ frT fs))).Nodup := nd
    have nda := List.nodup_append.mp hnd
    have ndb := nda.2.1
    rw [List.nodup_cons] at ndb
    have hjr : f.j ∉ r.tks := fun z => nda.2.2 f.j z f.j (by simp) rfl
    have ek : (M.hang f.j f.pl r.tk).kids f.j = some (f.kids r.tk) := by rw [hang_kids _ _ f2.kids, fset_same, fr_set]
    have eup : ∀ j, (M.hang f.j f.pl r.tk).up j = if r.tk = some j then some (some f.j) else M.up j := hang_up _ _ f2.kids
    have upn : ∀ j, M.up j ≠ none → (M.hang f.j f.pl r.tk).up j ≠ none := fun j h => by
      rw [eup]
      split
      · simp
      · exact h
    have notr : ∀ j, j ∉ r.tks → (M.hang f.j f.pl r.tk).up j = M.up j := fun j h => by rw [eup, if_neg fun z => h (T2.tk_mem z)]
    have kdn : ∀ j, j ≠ f.j → (M.hang f.j f.pl r.tk).kids j = M.kids j := fun j h => by rw [hang_kids _ _ f2.kids, fset_ne _ _ h]
    have ag1 : Agr M (M.hang f.j f.pl r.tk) (f.j :: r.tks) := ⟨hang_kind .., hang_roots .., hang_mark .., hang_key .., fun j hj => kdn j fun z => hj (by simp [z]), fun j hj => notr j fun z => hj (by simp [z]), fun j _ => by rw [hang_rank]⟩
    have hr1 : At (M.hang f.j f.pl r.tk) r := At.congr (hang_kind ..) (fun j hj => ⟨by rw [hang_key], kdn j fun z => hjr (z ▸ hj), by rw [hang_rank], upn j⟩) hr
    have ur1 : UpOk (M.hang f.j f.pl r.tk) (some f.j) r := side_up (M := M) (fun j hj => by rw [eup, if_pos hj]) (fun j hj hne => by rw [eup, if_neg hne]) nda.1 ur.inn
    have hsb : ∀ i ∈ f.sib.tks, i ∉ f.j :: r.tks := fun i hi z => by
      rcases List.mem_cons.mp z with z | z
      · exact ndb.1 (z ▸ List.mem_append_left _ hi)
      · exact nda.2.2 i z i (by simp [hi]) rfl
    have hfs : ∀ i ∈ frT fs, i ∉ f.j :: r.tks := fun i hi z => by
      rcases List.mem_cons.mp z with z | z
      · exact ndb.1 (z ▸ List.mem_append_right _ hi)
      · exact nda.2.2 i z i (by simp [hi]) rfl
    have fa1 : FrAt (M.hang f.j f.pl r.tk) f r.tk := ⟨by rw [hang_key]; exact f2.key, ek, by rw [hang_rank]; exact f2.rank, upn _ f2.upn, ag1.at_ hsb f2.sib, ag1.upOk hsb f2.usib⟩
    have fo1 : FrOk (M.hang f.j f.pl r.tk) f.j fs := by
      -- the up of f.j itself stays
      have hu : (M.hang f.j f.pl r.tk).up f.j = M.up f.j := notr _ hjr
      cases fs with
      | nil =>
        show (M.hang f.j f.pl r.tk).up f.j = some none
        rw [hu]; exact f3
      | cons f' fs' =>
        exact ⟨by rw [hu]; exact f3.1, f3.2.1.congr ag1 (hfs _ (by simp [frT])) fun i hi => hfs i (by simp [frT, hi]), f3.2.2.congr ag1 (hfs _ (by simp [frT])) fun i hi => hfs i (by simp [frT, hi])⟩
    refine hang_ok (m + 2) (p := f.pl) ⟨w, T⟩ f2.kids (fr_len f _) hr.up fun S1 T1 st1 => ?_
    ac_rfl
    refine ups_loop m fs T1 (by rw [hang_kind]; exact two) fa1 hr1 ur1 fo1 nd fun S2 B2 M2 T2 st2 at2 up2 ag2 => ?_
    rw [hang_kind] at at2 up2
    have ag3 : Agr M M2 (r.tks ++ frT (f :: fs)) := (ag1.mono fun i hi => by
      rcases List.mem_cons.mp hi with z | z
      · simp [frT, z]
      · simp [z]).trans ag2
    exact q S2 B2 M2 T2 (st1.trans st2) at2 up2 ⟨ag3.kind, rfl, ag3.mark, ag3.key, ag3.kids, ag3.up, ag3.rank⟩ (fun z => nomatch z) (fun _ => ag3.roots)
/-- an item goes: its sides meet in its place -/
theorem taken_out_ok (m n : Nat) {t N : Nat} {k c : Int} {a b : T2} (fs : List Fr2) {Q : DK} {X : XK} {S : Store} {B : Nat → Prop} {M : TM} (T : Tab S t B N M) (hN : 1 ≤ N) (two : Two M.kind) (ha : At M (plug fs (.node k c a b))) (hu : UpOk M none (plug fs (.node k c a b))) (nd : (plug fs (.node k c a b)).tks.Nodup) (hsz : a.sz + b.sz ≤ n) (hn : n ≤ 5000)
    (q : ∀ S' B' M', Tab S' t B' N M' → Step B B' S S' → At M' (plugS M.kind fs (meetN M.kind n a b).1) → UpOk M' none (plugS M.kind fs (meetN M.kind n a b).1) → Agr { M with roots := M'.roots } M' (plug fs (.node k c a b)).tks → (fs = [] → M'.roots = (meetN M.kind n a b).1.tk.toList) → (fs ≠ [] → M'.roots = M.roots) → Q (.int (meetN M.kind n a b).2) S') :
    callN PP (m + 5) f_taken_out [.ref t, .int c] S Q X := by
  obtain ⟨fo, hs, us⟩ := frok_of fs (t := .node k c a b) rfl ha hu
  have pm := plug_tks fs (.node k c a b)
  have nd1 : ((c :: (a.tks ++ b.tks)) ++ frT fs).Nodup := pm.nodup nd
  have nd2 := List.nodup_append.mp nd1
  have nd3 := nd2.1
  rw [List.nodup_cons] at nd3
  have hc : c ∉ frT fs := fun z => nd2.2.2 c (by simp) c z rfl
  obtain ⟨w, T⟩ := T
  refine enter rfl rfl ?_
  show wpCs _ k_taken_out_0 _ [some (.ref t), some (.int c), none, none] S
  bv_omega
  obtain ⟨bb, e1, e2, e3, e4⟩ := kids_at T hs.2.1
  refine attr_go T.ins (tb_kids M w) ?_
  refine ixi_go T.d2 e1 ?_
  refine ixn_go (j := 0) e2 rfl rfl ?_
  refine attr_go T.ins (tb_kids M w) ?_
  refine ixi_go T.d2 e1 ?_
  refine ixn_go (j := 1) e2 rfl rfl ?_
  refine meet_ok m n ⟨w, T⟩ two hs.2.2.2.2.2.1 hs.2.2.2.2.2.2 us.1.inn us.2.inn nd3.2 hsz hn fun S1 B1 M1 T1 st1 at1 up1 ag1 => ?_
  ac_rfl
  bv_omega
  have pmt := meet_tks M.kind n a b hsz
  have hca : c ∉ a.tks ++ b.tks := nd3.1
  have hfa : ∀ i ∈ frT fs, i ∉ a.tks ++ b.tks := fun i hi z => nd2.2.2 i (List.mem_cons_of_mem _ z) i hi rfl
  refine replace_ok m fs T1 hN (by rw [ag1.kind]; exact two) (fo.congr ag1 hca hfa) at1 up1 ?_ hc fun S2 B2 M2 T2 st2 at2 up2 ag2 r1 r2 => ?_
  · refine List.Perm.nodup (pmt.append_right _).symm ?_
    exact (List.nodup_cons.mp (show (c :: ((a.tks ++ b.tks) ++ frT fs)).Nodup from nd1)).2
  · bv_omega
    rw [ag1.kind] at at2 up2
    refine q S2 B2 M2 T2 (st1.trans st2) at2 up2 ?_ r1 (fun z => (r2 z).trans ag1.roots)
    have sub1 : ∀ i ∈ a.tks ++ b.tks, i ∈ (plug fs (.node k c a b)).tks := fun i hi => pm.mem_iff.mpr (List.mem_append_left _ (List.mem_cons_of_mem _ hi))
    have sub2 : ∀ i ∈ frT fs, i ∈ (plug fs (.node k c a b)).tks := fun i hi => pm.mem_iff.mpr (List.mem_append_right _ hi)
    have g1 := ag1.mono sub1
    have g2 := ag2.mono (l' := (plug fs (.node k c a b)).tks) fun i hi => by
      rcases List.mem_append.mp hi with z | z
      · exact sub1 i (pmt.mem_iff.mp z)
      · exact sub2 i z
    exact ⟨g2.kind.trans g1.kind, rfl, g2.mark.trans g1.mark, g2.key.trans g1.key, fun i h => (g2.kids i h).trans (g1.kids i h), fun i h => (g2.up i h).trans (g1.up i h), fun i h => (g2.rank i h).trans (g1.rank i h)⟩
end Mn

namespace Mn
open PySem
theorem At.roots {M : TM} {t : T2} (l : List Int) (h : At M t) : At { M with roots := l } t := At.congr (M := M) (M' := { M with roots := l }) rfl (fun _ _ => ⟨rfl, rfl, rfl, fun h => h⟩) h
theorem UpOk.roots {M : TM} {t : T2} {p : Option Int} (l : List Int) (h : UpOk M p t) : UpOk { M with roots := l } p t := UpOk.congr (M := M) (M' := { M with roots := l }) (fun _ _ => rfl) h
theorem first_or {x : Option Int} : L2.atI ((x.toList.map D.int) ++ [.non]) 0 = some (oI x) := by
  cases x with
  | none => exact L2.atI_nat (j := 0) rfl
  | some i => exact L2.atI_nat (j := 0) rfl
/-- the trees that are there meet those of another shape -/
theorem joined_sides_ok (m n : Nat) {t N rl : Nat} {a b : T2} {Q : DK} {X : XK} {S : Store} {B : Nat → Prop} {M : TM} (T : Tab S t B N M) (hN : 1 ≤ N) (two : Two M.kind) (er : M.roots = a.tk.toList) (hl : S[rl]? = some (.lst (b.tk.toList.map D.int))) (ha : At M a) (hb : At M b) (ua : UpIn M a) (ub : UpIn M b) (nd : (a.tks ++ b.tks).Nodup) (hsz : a.sz + b.sz ≤ n) (hn : n ≤ 5000)
    (q : ∀ S' B' M', Tab S' t B' N M' → Step B B' S S' → At M' (meetN M.kind n a b).1 → UpOk M' none (meetN M.kind n a b).1 → Agr { M with roots := M'.roots } M' (a.tks ++ b.tks) → M'.roots = (meetN M.kind n a b).1.tk.toList → Q (.int (meetN M.kind n a b).2) S') :
    callN PP (m + 5) f_joined_sides [.ref t, .ref rl] S Q X := by
  obtain ⟨w, T⟩ := T
  refine enter rfl rfl ?_
  show wpCs _ k_joined_sides_0 _ [some (.ref t), some (.ref rl), none, none] S
  bv_omega
  have tl : ∀ x : Option Int, (x.toList.map D.int).length ≤ 1 := fun x => by cases x <;> simp
  refine attr_go T.ins (tb_roots M w) ?_
  have r6 := T.r6
  rw [er] at r6
  refine addl_go (get_push r6 _) (last_get _ _) (by have := tl a.tk; rw [show ([D.non] : List D).length = 1 from rfl]; omega) ?_
  refine ixl_go (last_get _ _) first_or ?_
  refine addl_go (get_push (get_push (get_push hl _) _) _) (last_get _ _) (by have := tl b.tk; rw [show ([D.non] : List D).length = 1 from rfl]; omega) ?_
  refine ixl_go (last_get _ _) first_or ?_
  have T0 : Tab S t B N M := ⟨w, T⟩
  have T1 := ((T0.push [Ob.lst [.non]]).push [Ob.lst (a.tk.toList.map D.int ++ [.non])]).push [Ob.lst [.non]]
  have T2 := T1.push [Ob.lst (b.tk.toList.map D.int ++ [.non])]
  have st : Step B B S (S ++ [Ob.lst [.non]] ++ [Ob.lst (a.tk.toList.map D.int ++ [.non])] ++ [Ob.lst [.non]] ++ [Ob.lst (b.tk.toList.map D.int ++ [.non])]) := (((Step.push _).trans (Step.push _)).trans (Step.push _)).trans (Step.push _)
  refine meet_ok m n T2 two ha hb ua ub nd hsz hn fun S1 B1 M1 T3 st1 at1 up1 ag1 => ?_
  ac_rfl
  bv_omega
  refine set_root_ok (m + 3) T3 hN fun S2 B2 T4 st2 => ?_
  bv_omega
  exact q S2 B2 _ T4 ((st.trans st1).trans st2) (at1.roots _) (up1.roots _) ⟨ag1.kind, rfl, ag1.mark, ag1.key, ag1.kids, ag1.up, ag1.rank⟩ rfl
theorem plug_tk : ∀ (fs : List Fr2) {s r : T2}, (s.tk = r.tk) → (plug fs s).tk = (plug fs r).tk
  | [], _, _, h => h
  | f :: fs, s, r, _ => plug_tk fs (by rw [frplug_tk, frplug_tk])
theorem plugS_tk (kd : Kd) : ∀ (fs : List Fr2) {s r : T2}, (s.tk = r.tk ∨ fs ≠ []) → (plugS kd fs r).tk = (plug fs s).tk
  | [], _, _, h => by
    rcases h with h | h
    · exact h.symm
    · exact absurd rfl h
  | f :: fs, s, r, _ => plugS_tk kd fs (.inl (by rw [resid_tk, frplug_tk, frplug_tk]))
/-- a lowered item that has to move -/
theorem lowered_sides_ok (m n : Nat) {t N : Nat} {k c : Int} {a b : T2} (fs : List Fr2) {Q : DK} {X : XK} {S : Store} {B : Nat → Prop} {M : TM} (T : Tab S t B N M) (hN : 1 ≤ N) (two : Two M.kind) (hf : fs ≠ []) (er : M.roots = (plug fs (.node k c a b)).tk.toList) (ha : At M (plug fs (.node k c a b))) (hu : UpOk M none (plug fs (.node k c a b))) (nd : (plug fs (.node k c a b)).tks.Nodup) (hsz : (plug fs (.node k c a b)).sz ≤ n) (hn : n ≤ 5000)
    (q : ∀ S' B' M', Tab S' t B' N M' → Step B B' S S' → At M' (meetN M.kind n (plugS M.kind fs .nil) (.node k c a b)).1 → UpOk M' none (meetN M.kind n (plugS M.kind fs .nil) (.node k c a b)).1 → Agr { M with roots := M'.roots } M' (plug fs (.node k c a b)).tks → M'.roots = (meetN M.kind n (plugS M.kind fs .nil) (.node k c a b)).1.tk.toList → Q (.int (meetN M.kind n (plugS M.kind fs .nil) (.node k c a b)).2) S') :
    callN PP (m + 6) f_lowered_sides [.ref t, .int c] S Q X := by
  obtain ⟨fo, hs, us⟩ := frok_of fs (t := .node k c a b) rfl ha hu
  have pm := plug_tks fs (.node k c a b)
  have nd1 : ((c :: (a.tks ++ b.tks)) ++ frT fs).Nodup := pm.nodup nd
  have nd2 := List.nodup_append.mp nd1
  have hc : c ∉ frT fs := fun z => nd2.2.2 c (by simp) c z rfl
  have hsf : ∀ i ∈ (T2.node k c a b).tks, i ∉ [] ++ frT fs := fun i hi z => nd2.2.2 i hi i z rfl
  refine enter rfl rfl ?_
  show wpCs _ k_lowered_sides_0 _ [some (.ref t), some (.int c)] S
  bv_omega
  refine replace_ok (m + 1) (r := .nil) fs T hN two fo trivial trivial nd2.2.1 hc fun S1 B1 M1 T1 st1 at1 up1 ag1 r1 r2 => ?_
  have hs1 : At M1 (.node k c a b) := ag1.at_ hsf (hs.roots _)
  have us1 : UpIn M1 (.node k c a b) := ag1.upIn hsf ⟨us.1.roots _, us.2.roots _⟩
  obtain ⟨w1, T1⟩ := T1
  bv_omega
  refine attr_go T1.ins (tb_ups _ _) ?_
  have hsm : (dGet w1.k3 (.inl c)).isSome = true := by
    rw [T1.g3]
    cases hr : M1.up c with
    | none => exact absurd hr hs1.2.2.2.2.1
    | some _ => rfl
  obtain ⟨l1, l2, l3, l4, l5, l6⟩ := T1.len
  have cap := T1.cap
  refine seti_go T1.d3 (by omega) ?_
  have T3 := T1.set3 c none (Nat.le_refl _) (by rw [dPut_same hsm]; exact l3) cap
  have st3 := Step.set (S := S1) (.dct (dPut w1.k3 (.inl c) (oI none))) T1.own.2.2.2.1
  have ag3 : Agr M1 { M1 with up := fset M1.up c none } [c] := ⟨rfl, rfl, rfl, rfl, fun _ _ => rfl, fun j hj => fset_ne _ _ (by simpa using hj), fun _ _ => rfl⟩
  have ps := plugS_tks M.kind fs .nil
  have hpc : ∀ i ∈ (plugS M.kind fs .nil).tks, i ∉ [c] := fun i hi z => by
    have e : i = c := by simpa using z
    subst e
    exact hc (by simpa [T2.tks] using ps.mem_iff.mp hi)
  bv_omega
  have k3 : M1.kind = M.kind := ag1.kind
  have hs3 : At { M1 with up := fset M1.up c none } (.node k c a b) := by
    refine At.congr (M := M1) (M' := { M1 with up := fset M1.up c none }) rfl (fun j _ => ⟨rfl, rfl, rfl, fun h => ?_⟩) hs1
    show fset M1.up c none j ≠ none
    unfold fset
    split
    · simp
    · exact h
  have ndc := List.nodup_cons.mp (show (c :: (a.tks ++ b.tks)).Nodup from nd2.1)
  have us3 : UpIn { M1 with up := fset M1.up c none } (.node k c a b) :=
    ⟨UpOk.congr (M := M1) (M' := { M1 with up := fset M1.up c none }) (fun j hj => fset_ne _ _ fun z => ndc.1 (z ▸ List.mem_append_left _ hj)) us1.1, UpOk.congr (M := M1) (M' := { M1 with up := fset M1.up c none }) (fun j hj => fset_ne _ _ fun z => ndc.1 (z ▸ List.mem_append_right _ hj)) us1.2⟩
  have pms : ((plugS M.kind fs .nil).tks ++ (T2.node k c a b).tks).Perm (plug fs (.node k c a b)).tks := by
    refine ((ps.append_right _).trans List.perm_append_comm).trans ?_
    exact pm.symm
  have hszz : (plugS M.kind fs .nil).sz + (T2.node k c a b).sz ≤ n := by
    have := pms.length_eq
    rw [List.length_append, T2.tks_len, T2.tks_len, T2.tks_len] at this
    omega
  rw [show m + 5 = m + 5 from rfl]
  refine joined_sides_ok m n (a := plugS M.kind fs .nil) (b := .node k c a b) (rl := (S1.set w1.a3 (.dct (dPut w1.k3 (.inl c) (oI none)))).length) (Tab.push ⟨_, T3⟩ _) hN (by show Two M1.kind; rw [k3]; exact two) ?_ (last_get _ _) (ag3.at_ hpc at1) hs3 (ag3.upIn hpc up1.inn) us3 (pms.symm.nodup nd) hszz hn fun S4 B4 M4 T4 st4 at4 up4 ag4 r4 => ?_
  · show M1.roots = _
    rw [r2 hf, er, plugS_tk M.kind fs (.inr hf)]
  · have k4 : ({ M1 with up := fset M1.up c none } : TM).kind = M.kind := k3
    rw [k4] at at4 up4 r4
    rw [k4]
    refine q S4 B4 M4 T4 (((st1.trans st3).trans (Step.push _)).trans st4) at4 up4 ?_ r4
    have g1 := ag1.mono (l' := (plug fs (.node k c a b)).tks) fun i hi => pm.mem_iff.mpr (List.mem_append_right _ (by simpa [T2.tks] using hi))
    have g3 := ag3.mono (l' := (plug fs (.node k c a b)).tks) fun i hi => pm.mem_iff.mpr (by
      have e : i = c := by simpa using hi
      subst e
      simp [T2.tks])
    have g4 := ag4.mono (l' := (plug fs (.node k c a b)).tks) fun i hi => pms.mem_iff.mp hi
    exact ⟨g4.kind.trans g1.kind, rfl, g4.mark.trans g1.mark, g4.key.trans g1.key, fun i h => ((g4.kids i h).trans (g3.kids i h)).trans (g1.kids i h), fun i h => ((g4.up i h).trans (g3.up i h)).trans (g1.up i h), fun i h => ((g4.rank i h).trans (g3.rank i h)).trans (g1.rank i h)⟩
end Mn

/-! Trees level by level. -/
namespace Mn
open PySem
def T2.isNil : T2 → Bool
  | .nil => true
  | _ => false
/-- the sides that are there -/
def T2.subs : T2 → List T2
  | .nil => []
  | .node _ _ a b => [a, b].filter fun t => !t.isNil
def szL (l : List T2) : Nat := (l.map T2.sz).sum
theorem szL_app (l m : List T2) : szL (l ++ m) = szL l + szL m := by simp [szL]
theorem szL_cons (t : T2) (l : List T2) : szL (t :: l) = t.sz + szL l := by simp [szL]
theorem subs_sz {k i : Int} {a b : T2} : szL (T2.node k i a b).subs = a.sz + b.sz := by
  unfold T2.subs
  cases a <;> cases b <;> simp [szL, T2.isNil, T2.sz]
theorem subs_ne (t : T2) : ∀ s ∈ t.subs, s.isNil = false := by
  cases t with
  | nil => exact fun s hs => nomatch hs
  | node k i a b =>
    intro s hs
    simpa using (List.mem_filter.mp hs).2
def bfs : Nat → List T2 → List T2
  | _, [] => []
  | 0, _ => []
  | n + 1, s :: q => s :: bfs n (q ++ s.subs)
theorem node_sz {s : T2} (h : s.isNil = false) : szL s.subs + 1 = s.sz := by
  cases s with
  | nil => cases h
  | node k i a b => rw [subs_sz]; rfl
theorem bfs_mem : ∀ (n : Nat) (Q : List T2), (∀ s ∈ Q, s.isNil = false) → szL Q ≤ n → ∀ s ∈ Q, s ∈ bfs n Q
  | _, [], _, _, s, hs => nomatch hs
  | 0, q :: Q, hne, hsz, s, hs => by
    have h1 := node_sz (hne q List.mem_cons_self)
    rw [szL_cons] at hsz
    omega
  | n + 1, q :: Q, hne, hsz, s, hs => by
    have h1 := node_sz (hne q List.mem_cons_self)
    rw [szL_cons] at hsz
    show s ∈ q :: bfs n (Q ++ q.subs)
    rcases List.mem_cons.mp hs with rfl | hs
    · exact List.mem_cons_self
    · refine List.mem_cons_of_mem _ (bfs_mem n _ (fun u hu => ?_) (by rw [szL_app]; omega) s (List.mem_append_left _ hs))
      rcases List.mem_append.mp hu with h | h
      · exact hne u (List.mem_cons_of_mem _ h)
      · exact subs_ne q u h
/-- sides stand behind -/
theorem bfs_after : ∀ (n : Nat) (Q : List T2), (∀ s ∈ Q, s.isNil = false) → szL Q ≤ n → ∀ pre s post, bfs n Q = pre ++ s :: post → ∀ c ∈ s.subs, c ∈ post
  | _, [], _, _, pre, s, post, e, c, hc => by
    unfold bfs at e
    cases pre <;> cases e
  | 0, q :: Q, hne, hsz, _, _, _, _, _, _ => by
    have h1 := node_sz (hne q List.mem_cons_self)
    rw [szL_cons] at hsz
    omega
  | n + 1, q :: Q, hne, hsz, pre, s, post, e, c, hc => by
    have h1 := node_sz (hne q List.mem_cons_self)
    rw [szL_cons] at hsz
    have hne2 : ∀ u ∈ Q ++ q.subs, u.isNil = false := fun u hu => by
      rcases List.mem_append.mp hu with h | h
      · exact hne u (List.mem_cons_of_mem _ h)
      · exact subs_ne q u h
    have hs2 : szL (Q ++ q.subs) ≤ n := by rw [szL_app]; omega
    have e : q :: bfs n (Q ++ q.subs) = pre ++ s :: post := e
    cases pre with
    | nil =>
      have e2 := List.cons.inj e
      obtain ⟨rfl, e3⟩ := e2
      rw [← e3]
      exact bfs_mem n _ hne2 hs2 c (List.mem_append_right _ hc)
    | cons p pre =>
      have e2 := List.cons.inj e
      exact bfs_after n _ hne2 hs2 pre s post e2.2 c hc
theorem bfs_ne : ∀ (n : Nat) (Q : List T2), (∀ s ∈ Q, s.isNil = false) → ∀ s ∈ bfs n Q, s.isNil = false
  | _, [], _, s, hs => by
    unfold bfs at hs
    cases hs
  | 0, q :: Q, _, s, hs => nomatch hs
  | n + 1, q :: Q, hne, s, hs => by
    rcases List.mem_cons.mp (show s ∈ q :: bfs n (Q ++ q.subs) from hs) with rfl | hs
    · exact hne _ List.mem_cons_self
    · refine bfs_ne n _ (fun u hu => ?_) s hs
      rcases List.mem_append.mp hu with h | h
      · exact hne u (List.mem_cons_of_mem _ h)
      · exact subs_ne q u h
theorem bfs_len : ∀ (n : Nat) (Q : List T2), (bfs n Q).length ≤ n
  | _, [] => by
    unfold bfs
    exact Nat.zero_le _
  | 0, q :: Q => Nat.le_refl _
  | n + 1, q :: Q => Nat.succ_le_succ (bfs_len n _)
/-- all trees within -/
theorem bfs_at {M : TM} : ∀ (n : Nat) (Q : List T2), (∀ s ∈ Q, At M s) → ∀ s ∈ bfs n Q, At M s
  | _, [], _, s, hs => by
    unfold bfs at hs
    cases hs
  | 0, q :: Q, _, s, hs => nomatch hs
  | n + 1, q :: Q, hq, s, hs => by
    rcases List.mem_cons.mp (show s ∈ q :: bfs n (Q ++ q.subs) from hs) with rfl | hs
    · exact hq _ List.mem_cons_self
    · refine bfs_at n _ (fun u hu => ?_) s hs
      rcases List.mem_append.mp hu with h | h
      · exact hq u (List.mem_cons_of_mem _ h)
      · have := hq q List.mem_cons_self
        cases q with
        | nil => cases h
        | node k i a b =>
          have h2 := (List.mem_filter.mp h).1
          rcases (by simpa using h2 : u = a ∨ u = b) with rfl | rfl
          · exact this.2.2.2.2.2.1
          · exact this.2.2.2.2.2.2
end Mn

namespace Mn
open PySem
def lookM (kvs : List (Key × D)) : D → D
  | .int j => (dGet kvs (.inl j)).getD .non
  | _ => .tup []
theorem look_sub {kvs : List (Key × D)} {c : T2} (h : ∀ j, c.tk = some j → dGet kvs (.inl j) = some c.d) : lookM kvs (oI c.tk) = c.d := by
  cases c with
  | nil => rfl
  | node k i a b =>
    show (dGet kvs (.inl i)).getD .non = _
    rw [h i rfl]
    rfl
theorem tree_ok (m : Nat) {S : Store} {t N md : Nat} {B : Nat → Prop} {M : TM} {k i : Int} {a b : T2} {kvs : List (Key × D)} {Q : DK} {X : XK} (T : Tab S t B N M) (two : Two M.kind) (h : At M (.node k i a b)) (hm : S[md]? = some (.dct kvs)) (ha : ∀ j, a.tk = some j → dGet kvs (.inl j) = some a.d) (hb : ∀ j, b.tk = some j → dGet kvs (.inl j) = some b.d)
    (q : ∀ S', Ext S S' → Q (T2.node k i a b).d S') : callN PP (m + 2) f_Table_tree [.ref t, .int i, .ref md] S Q X := by
  obtain ⟨w, T⟩ := T
  obtain ⟨q1, q2, q3, q4, q5, q6, q7⟩ := h
  refine enter rfl rfl ?_
  show wpCs _ k_Table_tree_0 _ [some (.ref t), some (.int i), some (.ref md), none, none] S
  bv_omega
  obtain ⟨bb, e1, e2, e3, e4⟩ := kids_at T q2
  refine attr_go T.ins (tb_kids M w) ?_
  refine ixi_go T.d2 e1 ?_
  refine it_lst e2 ?_
  refine lcB_map (S1 := S) (fun _ => true) (lookM kvs) (fun acc => lst_of (get_push e2 _)) (by simp) (fun d hd => ⟨_, rfl, fun acc => ⟨fun K hK => hK, fun _ K hK => ?_⟩⟩) ?_
  · have gm := get_push hm [Ob.lst acc]
    have hd2 : d = oI a.tk ∨ d = oI b.tk := by simpa using hd
    have one : ∀ c : T2, (∀ j, c.tk = some j → dGet kvs (.inl j) = some c.d) → d = oI c.tk → wpE (callN PP (m + 1)) (.ite (.cmp .Is (.v 4) (.cst .non)) (.tup .nil) (.ix (.v 2) (.v 4))) [some (.ref t), some (.int i), some (.ref md), none, some d] (S ++ [Ob.lst acc]) K noX := by
      intro c hc e
      subst e
      cases c with
      | nil => exact ⟨nle, hK⟩
      | node k' i' x y =>
        ac_rfl
        refine ixi_go gm (hc i' rfl) ?_
        have := hK
        rw [look_sub hc] at this
        exact this
    rcases hd2 with e | e
    · exact one a ha e
    · exact one b hb e
  rw [List.nil_append, List.filter_eq_self.mpr (fun _ _ => rfl)]
  rw [show ([a.tk, b.tk].map oI).map (lookM kvs) = [a.d, b.d] by show [lookM kvs (oI a.tk), lookM kvs (oI b.tk)] = _; rw [look_sub ha, look_sub hb]]
  have T1 := T.keep (S' := S ++ [Ob.lst [a.d, b.d]]) fun j o _ h => get_push h _
  have x1 := Ext.push S (Ob.lst [a.d, b.d])
  refine tuple_go (last_get _ _) ?_
  ac_rfl
  generalize S ++ [Ob.lst [a.d, b.d]] = S1 at *
  bv_omega
  refine attr_go T1.ins (tb_kind M w) ?_
  refine kd_in (a := .left) (b := .skew) ?_
  rw [show (decide (M.kind = .left) || decide (M.kind = .skew)) = true by rcases two with e | e <;> rw [e] <;> rfl]
  show wpCs _ k_Table_tree_1a0 _ _ _
  bv_omega
  refine meth_go T1.ins rfl ?_
  refine item_ok m ⟨w, T1⟩ q1 ?_
  ac_rfl
  exact ⟨nle, q S1 x1⟩
end Mn

namespace Mn
open PySem
theorem Tab.ext {S S' : Store} {t N : Nat} {B : Nat → Prop} {M : TM} (T : Tab S t B N M) (x : Ext S S') : Tab S' t B N M := by
  obtain ⟨w, T⟩ := T
  exact ⟨w, T.keep fun j o _ h => x.get h⟩
theorem At.unique {M : TM} : ∀ {s s' : T2}, At M s → At M s' → s.tk = s'.tk → s = s'
  | .nil, .nil, _, _, _ => rfl
  | .nil, .node _ _ _ _, _, _, e => nomatch e
  | .node _ _ _ _, .nil, _, _, e => nomatch e
  | .node k i a b, .node k' i' a' b', h, h', e => by
    have e1 : i = i' := Option.some.inj e
    subst e1
    obtain ⟨q1, q2, q3, q4, q5, q6, q7⟩ := h
    obtain ⟨p1, p2, p3, p4, p5, p6, p7⟩ := h'
    rw [p1] at q1
    rw [p2] at q2
    have z := Option.some.inj q2
    simp at z
    cases q1
    rw [At.unique q6 p6 z.1.symm, At.unique q7 p7 z.2.symm]
def tkD (s : T2) : D := oI s.tk
def rootsL (tr : T2) : List T2 := if tr.isNil then [] else [tr]
theorem subs_tk (k i : Int) (a b : T2) : (([a.tk, b.tk].map oI).filter fun d => !isNon d).map id = (T2.node k i a b).subs.map tkD := by
  unfold T2.subs
  cases a <;> cases b <;> rfl
theorem rev_split {α : Type} {l : List α} {i : Nat} {s : α} (h : l.reverse[i]? = some s) : ∃ pre, l = pre ++ s :: (l.reverse.take i).reverse := by
  have hlt := (List.getElem?_eq_some_iff.mp h).1
  have e := (List.getElem?_eq_some_iff.mp h).2
  refine ⟨(l.reverse.drop (i + 1)).reverse, ?_⟩
  have h1 : l.reverse = l.reverse.take i ++ s :: l.reverse.drop (i + 1) := by
    conv => lhs; rw [← List.take_append_drop i l.reverse, List.drop_eq_getElem_cons hlt, e]
  have h2 := congrArg List.reverse h1
  rw [List.reverse_reverse] at h2
  conv => lhs; rw [h2]
  simp
theorem dPut_len2 (kvs : List (Key × D)) (k : Key) (v : D) : (dPut kvs k v).length ≤ kvs.length + 1 := by
  unfold dPut
  split <;> simp
theorem t2_num : ∀ t : T2, nums t.l = true
  | .nil => rfl
  | .node k i a b => by
    show (true && (nums a.l && (nums b.l && true))) = true
    rw [t2_num a, t2_num b]
    rfl
theorem shape_ok (m n : Nat) {S : Store} {t N : Nat} {B : Nat → Prop} {M : TM} {tr : T2} {Q : DK} {X : XK} (T : Tab S t B N M) (two : Two M.kind) (er : M.roots = tr.tk.toList) (h : At M tr) (hsz : tr.sz ≤ n) (hn : n ≤ 5000)
    (q : ∀ S', Ext S S' → Q tr.d S') : callN PP (m + 3) f_Table_shape [.ref t] S Q X := by
  have hQne : ∀ s ∈ rootsL tr, s.isNil = false := fun s hs => by
    unfold rootsL at hs
    split at hs
    · cases hs
    · rename_i hh
      rw [List.mem_singleton.mp hs]
      simpa using hh
  have hQsz : szL (rootsL tr) ≤ n := by
    unfold rootsL
    split
    · exact Nat.zero_le _
    · rw [szL_cons]
      show tr.sz + 0 ≤ n
      omega
  have hQat : ∀ s ∈ rootsL tr, At M s := fun s hs => by
    unfold rootsL at hs
    split at hs
    · cases hs
    · rw [List.mem_singleton.mp hs]
      exact h
  have eroots : M.roots.map D.int = (rootsL tr).map tkD := by
    rw [er]
    cases tr <;> rfl
  refine enter rfl rfl ?_
  show wpCs _ k_Table_shape_0 _ [some (.ref t), none, none, none, none, none, none] S
  obtain ⟨w, Tw⟩ := T
  have T : Tab S t B N M := ⟨w, Tw⟩
  bv_omega
  refine attr_go Tw.ins (tb_roots M w) ?_
  have r6 := Tw.r6
  rw [eroots] at r6
  refine listl_go r6 ?_
  ac_rfl
  bv_omega
  bv_omega
  refine whB_at (fun f ρ S' => ∃ (dn qu : List T2) (x3 : Option D), ρ = [some (.ref t), some (.ref S.length), some (.int (dn.length : Nat)), x3, none, none, none] ∧ Ext S S' ∧ S'[S.length]? = some (.lst ((dn ++ qu).map tkD)) ∧ bfs n (rootsL tr) = dn ++ bfs f qu ∧ szL qu ≤ f ∧ f + dn.length ≤ n ∧ (∀ s ∈ qu, At M s ∧ s.isNil = false)) ?_ n ?_
  · rintro f ρ S' ⟨dn, qu, x3, rfl, hx, go, eb, hq, hf, hqa⟩ N2 hN2
    have hql : qu.length ≤ szL qu := by
      have hqa2 : ∀ s ∈ qu, s.isNil = false := fun s hs => (hqa s hs).2
      clear hN2 hqa hq eb go
      induction qu with
      | nil => exact Nat.zero_le _
      | cons s qu ih =>
        have h1 := node_sz (hqa2 s List.mem_cons_self)
        have h2 := ih fun u hu => hqa2 u (List.mem_cons_of_mem _ hu)
        rw [szL_cons, List.length_cons]
        omega
    ac_rfl
    refine len_go go (by rw [List.length_map, List.length_append]; omega) ?_
    ac_rfl
    rw [List.length_map, List.length_append]
    cases qu with
    | nil =>
      rw [decide_eq_false (by simp)]
      show wpCs _ k_Table_shape_3 _ _ _
      refine cs_cons ?_
      have eL : bfs n (rootsL tr) = dn := by
        rw [eb]
        have : bfs f [] = [] := by unfold bfs; rfl
        rw [this, List.append_nil]
      rw [List.append_nil] at go
      show wpCs _ k_Table_shape_4 _ [some (.ref t), some (.ref S.length), some (.int (dn.length : Nat)), x3, some (.ref S'.length), none, none] (S' ++ [.dct []])
      bv_omega
      refine rev_go (get_push go _) ?_
      refine it_lst (last_get _ _) ?_
      have ln : dn.length ≤ n := by have := bfs_len n (rootsL tr); rw [eL] at this; exact this
      have hlt0 := get_lt go
      have hS := hx.len
      refine forB_at _ (fun i ρ S2 => i ≤ dn.length ∧ ∃ (kvs : List (Key × D)) (x5 : Option D), ρ = [some (.ref t), some (.ref S.length), some (.int (dn.length : Nat)), x3, some (.ref S'.length), x5, none] ∧ Ext S S2 ∧ S2[S'.length + 1]? = some (.lst (dn.map tkD).reverse) ∧ S2[S'.length]? = some (.dct kvs) ∧ kvs.length ≤ i ∧ ∀ s ∈ dn.reverse.take i, ∀ j, s.tk = some j → dGet kvs (.inl j) = some s.d) ?_ ?_ ?_ ?_
      · rintro i ρ S2 ⟨_, kvs, x5, rfl, x2, gr, gm, hl, hd⟩
        have e : (S' ++ [Ob.dct []]).length = S'.length + 1 := by simp
        show lst? S2 (S' ++ [Ob.dct []]).length = _
        rw [e]
        exact lst_of gr
      · rintro ρ S2 ⟨_, kvs, x5, rfl, x2, gr, gm, hl, hd⟩
        have el : (dn.map tkD).reverse.length = dn.reverse.length := by simp
        rw [el, List.take_length] at hd
        have Tb := T.ext x2
        obtain ⟨w2, Tb⟩ := Tb
        bv_omega
        refine attr_go Tb.ins (tb_roots M w2) ?_
        have r62 := Tb.r6
        rw [eroots] at r62
        refine it_lst r62 ?_
        have look : ∀ s ∈ rootsL tr, lookM kvs (tkD s) = s.d := fun s hs => look_sub fun j e => hd s (by rw [List.mem_reverse, ← eL]; exact bfs_mem n _ hQne hQsz s hs) j e
        refine lcB_map (S1 := S2) (fun _ => true) (lookM kvs) (fun acc => lst_of (get_push r62 _)) (by rw [List.length_map]; unfold rootsL; split <;> simp) (fun d hd2 => ?_) ?_
        · obtain ⟨s, hs, rfl⟩ := List.mem_map.mp hd2
          have hsn := hQne s hs
          cases s with
          | nil => cases hsn
          | node k i a b =>
            refine ⟨_, rfl, fun acc => ⟨fun K hK => hK, fun _ K hK => ?_⟩⟩
            rw [look _ hs] at hK
            ac_rfl
            refine ixi_go (get_push gm _) (hd (.node k i a b) (by rw [List.mem_reverse, ← eL]; exact bfs_mem n _ hQne hQsz _ hs) i rfl) ?_
            exact hK
        rw [List.nil_append, List.filter_eq_self.mpr (fun _ _ => rfl), List.map_map]
        rw [show (rootsL tr).map (lookM kvs ∘ tkD) = (rootsL tr).map T2.d from List.map_congr_left fun s hs => look s hs]
        have x3' := x2.trans (Ext.push S2 (Ob.lst ((rootsL tr).map T2.d)))
        have T3 := Tb.keep (S' := S2 ++ [Ob.lst ((rootsL tr).map T2.d)]) fun j o _ hh => get_push hh _
        refine tuple_go (last_get _ _) ?_
        ac_rfl
        generalize S2 ++ [Ob.lst ((rootsL tr).map T2.d)] = S3 at *
        bv_omega
        refine attr_go T3.ins (tb_kind M w2) ?_
        refine kd_in (a := .count) (b := .cut) ?_
        rw [show (decide (M.kind = .count) || decide (M.kind = .cut)) = false by rcases two with e | e <;> rw [e] <;> rfl]
        show wpCs _ k_Table_shape_7 _ _ _
        bv_omega
        have hnum : (D.tup ((rootsL tr).map T2.d)).num = true := by
          unfold rootsL
          split
          · rfl
          · show (nums tr.l && true) = true
            rw [t2_num]
            rfl
        refine nenil_pur (num_dat hnum) ?_
        cases tr with
        | nil =>
          ac_rfl
          exact q S3 x3'
        | node k i a b =>
          show ixD (.tup [(T2.node k i a b).d]) (.int 0) S3 _
          ac_rfl
          exact q S3 x3'
      · rintro i d hd0 ρ S2 ⟨hi, kvs, x5, rfl, x2, gr, gm, hl, hd⟩ N3 hN3
        rw [← List.map_reverse, List.getElem?_map] at hd0
        cases es : dn.reverse[i]? with
        | none => rw [es] at hd0; cases hd0
        | some s =>
          rw [es] at hd0
          have ed : tkD s = d := Option.some.inj hd0
          subst ed
          have hilt : i < dn.length := by
            have := (List.getElem?_eq_some_iff.mp es).1
            simpa using this
          obtain ⟨pre, epre⟩ := rev_split es
          have hsm : s ∈ bfs n (rootsL tr) := by rw [eL, epre]; simp
          have hat := bfs_at n _ hQat s hsm
          have hsn := bfs_ne n _ hQne s hsm
          have aft := bfs_after n _ hQne hQsz pre s _ (by rw [eL]; exact epre)
          cases s with
          | nil => cases hsn
          | node k j a b =>
            refine ⟨_, rfl, ?_⟩
            have Tb := T.ext x2
            obtain ⟨w2, Tb⟩ := Tb
            bv_omega
            refine meth_go Tb.ins rfl ?_
            have sub : ∀ c : T2, c = a ∨ c = b → ∀ j, c.tk = some j → dGet kvs (.inl j) = some c.d := fun c hc j e => by
              have hcn : c.isNil = false := by cases c with | nil => cases e | node _ _ _ _ => rfl
              refine hd c ?_ j e
              have hc2 : c ∈ (T2.node k j a b).subs := by
                unfold T2.subs
                rw [List.mem_filter]
                exact ⟨by simpa using hc, by simp [hcn]⟩
              have := aft c (by
                unfold T2.subs at hc2 ⊢
                exact hc2)
              simpa using this
            refine tree_ok m (md := S'.length) ⟨w2, Tb⟩ two hat gm (sub a (.inl rfl)) (sub b (.inr rfl)) fun S4 x4 => ?_
            ac_rfl
            refine seti_go (x4.get gm) (by omega) ?_
            refine hN3 _ _ ⟨by omega, _, _, rfl, (x2.trans x4).set (by omega) _, get_set_ne (x4.get gr) (by omega), get_set (x4.get gm), ?_, fun u hu j2 e2 => ?_⟩
            · have := dPut_len2 kvs (.inl j) (T2.node k j a b).d
              omega
            · rw [dGet_put]
              rw [List.take_succ, es] at hu
              by_cases e3 : j2 = j
              · subst e3
                rw [if_pos rfl]
                have hum : u ∈ bfs n (rootsL tr) := by
                  rw [eL]
                  rcases List.mem_append.mp hu with z | z
                  · exact List.mem_reverse.mp (List.mem_of_mem_take z)
                  · have : u = .node k j2 a b := by simpa using z
                    rw [this, ← eL]; exact hsm
                have := At.unique (bfs_at n _ hQat u hum) hat (e2.trans rfl)
                rw [this]
              · rw [if_neg (by simpa using e3)]
                rcases List.mem_append.mp hu with z | z
                · exact hd u z j2 e2
                · have : u = .node k j a b := by simpa using z
                  subst this
                  cases e2
                  exact absurd rfl e3
      · refine ⟨Nat.zero_le _, [], _, rfl, (hx.trans (Ext.push _ _)).trans (Ext.push _ _), ?_, get_push (last_get _ _) _, Nat.le_refl _, fun s hs => nomatch hs⟩
        have := last_get (S' ++ [Ob.dct []]) (Ob.lst (dn.map tkD).reverse)
        simpa using this
    | cons s qu =>
      rw [decide_eq_true (by simp; omega)]
      show wpCs _ k_Table_shape_2a0 _ _ _
      obtain ⟨hs, hsn⟩ := hqa s List.mem_cons_self
      cases s with
      | nil => cases hsn
      | node k i a b =>
        obtain ⟨f', rfl⟩ : ∃ f', f = f' + 1 := ⟨f - 1, by
          have := node_sz (s := .node k i a b) rfl
          rw [szL_cons] at hq
          omega⟩
        have T' := T.ext hx
        obtain ⟨w', T'⟩ := T'
        bv_omega
        refine attr_go T'.ins (tb_kids M w') ?_
        refine ixn_go (j := dn.length) go rfl (by simp; rfl) ?_
        obtain ⟨bb, e1, e2, e3, e4⟩ := kids_at T' hs.2.1
        show ixD (.ref w'.a2) (.int i) _ _
        refine ixi_go T'.d2 e1 ?_
        refine it_lst e2 ?_
        refine lcB_map (S1 := S') (fun d => !isNon d) id (fun acc => lst_of (get_push e2 _)) (by simp) (fun d hd => ⟨_, rfl, fun acc => ⟨fun K hK => ?_, fun _ K hK => hK⟩⟩) ?_
        · ac_rfl
          exact hK
        rw [List.nil_append, subs_tk k i a b]
        ac_rfl
        refine iadd_go (get_push go _) (last_get _ _) ?_ ?_
        · rw [List.length_map, List.length_map, List.length_append]
          have : (T2.node k i a b).subs.length ≤ 2 := by unfold T2.subs; exact List.length_filter_le _ _
          omega
        bv_omega
        have h1 := node_sz (s := .node k i a b) rfl
        rw [szL_cons] at hq
        refine hN2 f' _ _ (Nat.lt_succ_self _) ⟨dn ++ [.node k i a b], qu ++ (T2.node k i a b).subs, x3, by rw [List.length_append]; rfl, (hx.trans (Ext.push _ _)).set (Nat.le_refl _) _, ?_, ?_, by rw [szL_app]; omega, by simp; omega, ?_⟩
        · rw [get_set (get_push go _)]
          simp
        · rw [eb]
          show dn ++ (T2.node k i a b :: bfs f' (qu ++ (T2.node k i a b).subs)) = _
          simp
        · intro u hu
          rcases List.mem_append.mp hu with hh | hh
          · exact hqa u (List.mem_cons_of_mem _ hh)
          · refine ⟨?_, subs_ne _ u hh⟩
            have h2 := (List.mem_filter.mp hh).1
            rcases (by simpa using h2 : u = a ∨ u = b) with rfl | rfl
            · exact hs.2.2.2.2.2.1
            · exact hs.2.2.2.2.2.2
  · exact ⟨[], rootsL tr, _, rfl, Ext.push _ _, last_get _ _, rfl, hQsz, by simp, fun s hs => ⟨hQat s hs, hQne s hs⟩⟩
end Mn

namespace Mn
open PySem
def TM0 (kd : Kd) : TM := ⟨kd, fun _ => none, fun _ => none, fun _ => none, fun _ => none, fun _ => none, []⟩
def TW0 (n : Nat) : TW := ⟨n + 1, n + 2, n + 3, n + 4, n + 5, n + 6, [], [], [], [], []⟩
theorem set_at0 (S : Store) (o o' : Ob) (l : List Ob) : (S ++ o :: l).set S.length o' = S ++ o' :: l := by
  rw [List.set_append_right _ _ (Nat.le_refl _), Nat.sub_self]
  rfl
theorem at_k (S : Store) (l : List Ob) (k : Nat) : (S ++ l)[S.length + k]? = l[k]? := by
  rw [List.getElem?_append_right (by omega), Nat.add_sub_cancel_left]
theorem at_0 (S : Store) (o : Ob) (l : List Ob) : (S ++ o :: l)[S.length]? = some o := by
  have := at_k S (o :: l) 0
  simpa using this
theorem tab0 (S : Store) (kd : Kd) : TabW (S ++ [.ins 0 (tbF (TM0 kd) (TW0 S.length)), .dct [], .dct [], .dct [], .dct [], .dct [], .lst []]) S.length (fun j => S.length ≤ j ∧ j < S.length + 7) 0 (TM0 kd) (TW0 S.length) := by
  refine ⟨at_0 _ _ _, at_k S _ 1, at_k S _ 2, at_k S _ 3, at_k S _ 4, at_k S _ 5, at_k S _ 6, fun _ => rfl, fun _ => rfl, fun _ => rfl, fun _ => rfl, fun _ => .inl ⟨rfl, rfl⟩, (fun _ _ _ e => (nomatch e)), ?_, ?_, fun j hj => ?_, ⟨Nat.le_refl _, Nat.le_refl _, Nat.le_refl _, Nat.le_refl _, Nat.le_refl _, Nat.le_refl _⟩, Nat.zero_le _, ⟨KI.nil, KI.nil, KI.nil⟩⟩
  · simp [TW0]
  · simp [TW0]
  · simp
    omega
theorem init_ok (m : Nat) (kd : Kd) {S : Store} {Q : DK} {X : XK} (q : Q .non (S ++ [.ins 0 (tbF (TM0 kd) (TW0 S.length)), .dct [], .dct [], .dct [], .dct [], .dct [], .lst []])) : callN PP (m + 1) f_Table_init__ [.ref S.length, .str kd.s] (S ++ [.ins 0 []]) Q X := by
  refine enter rfl rfl ?_
  show wpCs _ k_Table_init___0 _ [some (.ref S.length), some (.str kd.s)] _
  bv_omega
  refine setA_go (at_0 S _ _) nle ?_
  rw [set_at0]
  refine cs_cons ?_
  show setAt 0 "key_at" (.ref S.length) (.ref (S ++ [Ob.ins 0 _]).length) (S ++ [Ob.ins 0 _] ++ [.dct []]) _
  simp only [List.append_assoc, List.cons_append, List.nil_append, List.length_append, List.length_cons, List.length_nil]
  refine setA_go (at_0 S _ _) nle ?_
  rw [set_at0]
  refine cs_cons ?_
  show setAt 0 "kids" (.ref S.length) (.ref (S ++ _).length) (S ++ _ ++ [.dct []]) _
  simp only [List.append_assoc, List.cons_append, List.nil_append, List.length_append, List.length_cons, List.length_nil]
  refine setA_go (at_0 S _ _) nle ?_
  rw [set_at0]
  refine cs_cons ?_
  show setAt 0 "ups" (.ref S.length) (.ref (S ++ _).length) (S ++ _ ++ [.dct []]) _
  simp only [List.append_assoc, List.cons_append, List.nil_append, List.length_append, List.length_cons, List.length_nil]
  refine setA_go (at_0 S _ _) nle ?_
  rw [set_at0]
  refine cs_cons ?_
  show setAt 0 "marks" (.ref S.length) (.ref (S ++ _).length) (S ++ _ ++ [.dct []]) _
  simp only [List.append_assoc, List.cons_append, List.nil_append, List.length_append, List.length_cons, List.length_nil]
  refine setA_go (at_0 S _ _) nle ?_
  rw [set_at0]
  refine cs_cons ?_
  show setAt 0 "ranks" (.ref S.length) (.ref (S ++ _).length) (S ++ _ ++ [.dct []]) _
  simp only [List.append_assoc, List.cons_append, List.nil_append, List.length_append, List.length_cons, List.length_nil]
  refine setA_go (at_0 S _ _) nle ?_
  rw [set_at0]
  refine cs_cons ?_
  refine ⟨nle, ?_⟩
  show setAt 0 "roots" (.ref S.length) (.ref (S ++ _).length) (S ++ _ ++ [.lst []]) _
  simp only [List.append_assoc, List.cons_append, List.nil_append, List.length_append, List.length_cons, List.length_nil]
  refine setA_go (at_0 S _ _) nle ?_
  rw [set_at0]
  exact q
end Mn

namespace Mn
open PySem
def isTwo : Kd → Bool
  | .left => true
  | .skew => true
  | _ => false
/-- a tree of one item more -/
def TM.add (M : TM) (k i : Int) : TM := { M with key := fset M.key i k, kids := fset M.kids i (if isTwo M.kind then [none, none] else []), up := fset M.up i none, rank := fset M.rank i 1 }
theorem add_ok (m : Nat) {S : Store} {t N : Nat} {B : Nat → Prop} {M : TM} {k i : Int} {Q : DK} {X : XK} (T : Tab S t B N M) (hN : N + 1 ≤ 10000)
    (q : ∀ S' B', Tab S' t B' (N + 1) (M.add k i) → Step B B' S S' → Q .non S') : callN PP (m + 1) f_Table_add [.ref t, itD (k, i)] S Q X := by
  obtain ⟨w, T⟩ := T
  refine enter rfl rfl ?_
  show wpCs _ k_Table_add_0 _ [some (.ref t), some (.tup [.int k, .int i]), none, none] S
  obtain ⟨l1, l2, l3, l4, l5, l6⟩ := T.len
  have p1 := dPut_len2 w.k1 (.inl i) (.int k)
  have p2 := dPut_len2 w.k2 (.inl i) (.ref S.length)
  have p3 := dPut_len2 w.k3 (.inl i) (oI none)
  have p5 := dPut_len2 w.k5 (.inl i) (.int 1)
  bv_omega
  bv_omega
  refine attr_go T.ins (tb_key M w) ?_
  refine seti_go T.d1 (by omega) ?_
  have T1 := T.set1 (N' := N + 1) i k (by omega) (by omega) hN
  have s1 := Step.set (B := B) (S := S) (.dct (dPut w.k1 (.inl i) (.int k))) T.own.2.1
  generalize hS1 : S.set w.a1 (.dct (dPut w.k1 (.inl i) (.int k))) = S1 at T1 s1
  have el : S1.length = S.length := by rw [← hS1, List.length_set]
  -- the list of sides
  have go : ∀ l : List (Option Int), l = (if isTwo M.kind then [none, none] else []) → wpCs (callN PP m) k_Table_add_3 ⟨fun _ S => Q .non S, Q, fun _ _ => False, fun _ _ => False, X⟩ [some (.ref t), some (.tup [.int k, .int i]), some (.int k), some (.int i)] ((S1 ++ [Ob.lst (l.map oI)]).set w.a2 (.dct (dPut w.k2 (.inl i) (.ref S1.length)))) := by
    intro l hl
    have T2 := new_own T1 (.lst (l.map oI))
    have s2 := new_step (B := B) (S := S1) (.lst (l.map oI))
    obtain ⟨n1, n2⟩ := new_no T1
    have T3 := T2.set2 (b := S1.length) (N' := N + 1) i l (last_get _ _) n2 (.inr rfl) n1 (Nat.le_refl _) (by show (dPut w.k2 _ _).length ≤ N + 1; rw [el]; omega) hN
    have s3 := Step.set (B := fun j => B j ∨ j = S1.length) (S := S1 ++ [Ob.lst (l.map oI)]) (.dct (dPut w.k2 (.inl i) (.ref S1.length))) T2.own.2.2.1
    bv_omega
    refine attr_go T3.ins (tb_ups _ _) ?_
    refine seti_go T3.d3 (by show w.k3.length < _; omega) ?_
    have T4 := T3.set3 (N' := N + 1) i none (Nat.le_refl _) (by show (dPut w.k3 _ _).length ≤ N + 1; omega) hN
    have s4 := Step.set (B := fun j => B j ∨ j = S1.length) (S := (S1 ++ [Ob.lst (l.map oI)]).set w.a2 (.dct (dPut w.k2 (.inl i) (.ref S1.length)))) (.dct (dPut w.k3 (.inl i) (oI none))) T3.own.2.2.2.1
    bv_omega
    refine attr_go T4.ins (tb_ranks _ _) ?_
    refine seti_go T4.d5 (by show w.k5.length < _; omega) ?_
    have T5 := T4.set5 (N' := N + 1) i 1 (Nat.le_refl _) (by show (dPut w.k5 _ _).length ≤ N + 1; omega) hN
    have s5 := Step.set (B := fun j => B j ∨ j = S1.length) (S := ((S1 ++ [Ob.lst (l.map oI)]).set w.a2 (.dct (dPut w.k2 (.inl i) (.ref S1.length)))).set w.a3 (.dct (dPut w.k3 (.inl i) (oI none)))) (.dct (dPut w.k5 (.inl i) (.int 1))) T4.own.2.2.2.2.2.1
    subst hl
    exact q _ _ ⟨_, T5⟩ ((((s1.trans s2).trans s3).trans s4).trans s5)
  bv_omega
  refine attr_go T1.ins (tb_kind _ _) ?_
  refine kd_in (a := .left) (b := .skew) ?_
  show match D.bl (decide (M.kind = .left) || decide (M.kind = .skew)) with | .bl true => _ | .bl false => _ | _ => False
  rw [show (decide (M.kind = .left) || decide (M.kind = .skew)) = isTwo M.kind by cases M.kind <;> rfl]
  cases ht : isTwo M.kind with
  | true =>
    ac_rfl
    refine attr_go (get_push T1.ins _) (tb_kids _ _) ?_
    refine seti_go (get_push T1.d2 _) (by show w.k2.length < _; omega) ?_
    exact go [none, none] (by rw [ht]; rfl)
  | false =>
    ac_rfl
    refine attr_go (get_push T1.ins _) (tb_kids _ _) ?_
    refine seti_go (get_push T1.d2 _) (by show w.k2.length < _; omega) ?_
    exact go [] (by rw [ht]; rfl)
end Mn

/-! Forests: trees of any kind, places that may be empty. -/
namespace Mn
open PySem
inductive F where
  | nil
  | hole (r : F)
  | cons (k i : Int) (m : Bool) (c r : F)
  deriving DecidableEq
/-- one tree -/
structure Nd where
  k : Int
  i : Int
  m : Bool
  c : F
def F.tk : F → List (Option Int)
  | .nil => []
  | .hole r => none :: r.tk
  | .cons _ i _ _ r => some i :: r.tk
def F.all : F → List Int
  | .nil => []
  | .hole r => r.all
  | .cons _ i _ c r => i :: (c.all ++ r.all)
def F.sz : F → Nat
  | .nil => 0
  | .hole r => r.sz
  | .cons _ _ _ c r => c.sz + r.sz + 1
def F.len : F → Nat
  | .nil => 0
  | .hole r => r.len + 1
  | .cons _ _ _ _ r => r.len + 1
def F.nds : F → List Nd
  | .nil => []
  | .hole r => r.nds
  | .cons k i m c r => ⟨k, i, m, c⟩ :: r.nds
def Nd.all (x : Nd) : List Int := x.i :: x.c.all
def Nd.sz (x : Nd) : Nat := x.c.sz + 1
def isCut : Kd → Bool
  | .cut => true
  | _ => false
def ndD (kd : Kd) (k i : Int) (m : Bool) (ks : List D) : D :=
  if isTwo kd then .tup (itD (k, i) :: ks) else if isCut kd then .tup [itD (k, i), .bl m, .tup ks] else .tup [itD (k, i), .tup ks]
def F.dl (kd : Kd) : F → List D
  | .nil => []
  | .hole r => .tup [] :: r.dl kd
  | .cons k i m c r => ndD kd k i m (c.dl kd) :: r.dl kd
def Nd.d (kd : Kd) (x : Nd) : D := ndD kd x.k x.i x.m (x.c.dl kd)
/-- as trees of the kind are, but for their order -/
def F.wf (kd : Kd) : F → Prop
  | .nil => True
  | .hole r => isTwo kd = true ∧ r.wf kd
  | .cons _ _ m c r => (isTwo kd = true → c.len = 2) ∧ (isCut kd = false → m = false) ∧ c.wf kd ∧ r.wf kd
def Nd.wf (kd : Kd) (x : Nd) : Prop := (isTwo kd = true → x.c.len = 2) ∧ (isCut kd = false → x.m = false) ∧ x.c.wf kd
def F.full : F → Bool
  | .nil => true
  | .hole _ => false
  | .cons _ _ _ _ r => r.full
theorem F.all_len : ∀ f : F, f.all.length = f.sz
  | .nil => rfl
  | .hole r => F.all_len r
  | .cons _ _ _ c r => by
    show (c.all ++ r.all).length + 1 = _
    rw [List.length_append, F.all_len c, F.all_len r]
    rfl
theorem F.tk_len : ∀ f : F, f.tk.length = f.len
  | .nil => rfl
  | .hole r => congrArg (· + 1) (F.tk_len r)
  | .cons _ _ _ _ r => congrArg (· + 1) (F.tk_len r)
theorem F.dl_len (kd : Kd) : ∀ f : F, (f.dl kd).length = f.len
  | .nil => rfl
  | .hole r => congrArg (· + 1) (F.dl_len kd r)
  | .cons _ _ _ _ r => congrArg (· + 1) (F.dl_len kd r)
theorem F.len_le (kd : Kd) : ∀ f : F, f.wf kd → f.len ≤ 2 * f.sz + 2 ∨ isTwo kd = true
  | .nil, _ => .inl (Nat.zero_le _)
  | .hole r, h => .inr h.1
  | .cons _ _ _ c r, h => by
    rcases F.len_le kd r h.2.2.2 with z | z
    · refine .inl ?_
      show r.len + 1 ≤ 2 * (c.sz + r.sz + 1) + 2
      omega
    · exact .inr z
theorem F.nds_all : ∀ f : F, f.all = (f.nds.map Nd.all).flatten
  | .nil => rfl
  | .hole r => F.nds_all r
  | .cons k i m c r => by
    show i :: (c.all ++ r.all) = (i :: c.all) ++ (r.nds.map Nd.all).flatten
    rw [F.nds_all r]
    rfl
def szN (l : List Nd) : Nat := (l.map Nd.sz).sum
theorem szN_cons (x : Nd) (l : List Nd) : szN (x :: l) = x.sz + szN l := by simp [szN]
theorem szN_app (l m : List Nd) : szN (l ++ m) = szN l + szN m := by simp [szN]
theorem F.nds_sz : ∀ f : F, szN f.nds = f.sz
  | .nil => rfl
  | .hole r => F.nds_sz r
  | .cons k i m c r => by
    show szN (⟨k, i, m, c⟩ :: r.nds) = _
    rw [szN_cons, F.nds_sz r]
    show c.sz + 1 + r.sz = c.sz + r.sz + 1
    omega
theorem F.nds_wf {kd : Kd} : ∀ {f : F}, f.wf kd → ∀ x ∈ f.nds, x.wf kd
  | .nil, _, x, hx => nomatch hx
  | .hole r, h, x, hx => F.nds_wf h.2 x hx
  | .cons k i m c r, h, x, hx => by
    rcases List.mem_cons.mp hx with rfl | hx
    · exact ⟨h.1, h.2.1, h.2.2.1⟩
    · exact F.nds_wf h.2.2.2 x hx
/-! what lies in a table -/
def AtF (M : TM) : Option Int → F → Prop
  | _, .nil => True
  | p, .hole r => AtF M p r
  | p, .cons k i m c r => M.key i = some k ∧ M.kids i = some c.tk ∧ M.up i = some p ∧ M.mark i = some m ∧ AtF M (some i) c ∧ AtF M p r
def AtN (M : TM) (p : Option Int) (x : Nd) : Prop := M.key x.i = some x.k ∧ M.kids x.i = some x.c.tk ∧ M.up x.i = some p ∧ M.mark x.i = some x.m ∧ AtF M (some x.i) x.c
theorem atF_iff {M : TM} {p : Option Int} : ∀ {f : F}, AtF M p f ↔ ∀ x ∈ f.nds, AtN M p x
  | .nil => ⟨fun _ x hx => (nomatch hx), fun _ => trivial⟩
  | .hole r => atF_iff (f := r)
  | .cons k i m c r => by
    constructor
    · rintro ⟨h1, h2, h3, h4, h5, h6⟩ x hx
      rcases List.mem_cons.mp hx with rfl | hx
      · exact ⟨h1, h2, h3, h4, h5⟩
      · exact atF_iff.mp h6 x hx
    · intro h
      obtain ⟨h1, h2, h3, h4, h5⟩ := h ⟨k, i, m, c⟩ List.mem_cons_self
      exact ⟨h1, h2, h3, h4, h5, atF_iff.mpr fun x hx => h x (List.mem_cons_of_mem _ hx)⟩
/-! ### laying trees out -/
/-- a tree that waits, and where it is to stand -/
structure En where
  x : Nd
  at_ : Option (Int × Nat)
def En.up (e : En) : Option Int := e.at_.map (·.1)
/-- the trees within, with their places -/
def F.ents (u : Int) : Nat → F → List En
  | _, .nil => []
  | p, .hole r => r.ents u (p + 1)
  | p, .cons k i m c r => ⟨⟨k, i, m, c⟩, some (u, p)⟩ :: r.ents u (p + 1)
theorem ents_x (u : Int) : ∀ (f : F) (p : Nat), (f.ents u p).map En.x = f.nds
  | .nil, _ => rfl
  | .hole r, p => ents_x u r (p + 1)
  | .cons k i m c r, p => by
    show ⟨k, i, m, c⟩ :: (r.ents u (p + 1)).map En.x = _
    rw [ents_x u r (p + 1)]
    rfl
theorem ents_up (u : Int) : ∀ (f : F) (p : Nat), ∀ e ∈ f.ents u p, ∃ q, e.at_ = some (u, q) ∧ p ≤ q ∧ q < p + f.len
  | .nil, _, e, he => nomatch he
  | .hole r, p, e, he => by
    obtain ⟨q, h1, h2, h3⟩ := ents_up u r (p + 1) e he
    exact ⟨q, h1, by omega, by show q < p + (r.len + 1); omega⟩
  | .cons k i m c r, p, e, he => by
    rcases List.mem_cons.mp he with rfl | he
    · exact ⟨p, rfl, Nat.le_refl _, by show p < p + (r.len + 1); omega⟩
    · obtain ⟨q, h1, h2, h3⟩ := ents_up u r (p + 1) e he
      exact ⟨q, h1, by omega, by show q < p + (r.len + 1); omega⟩
def allE (Q : List En) : List Int := (Q.map fun e => e.x.all).flatten
theorem allE_cons (e : En) (Q : List En) : allE (e :: Q) = e.x.all ++ allE Q := rfl
theorem allE_app (Q R : List En) : allE (Q ++ R) = allE Q ++ allE R := by unfold allE; rw [List.map_append, List.flatten_append]
theorem allE_ents (u : Int) (f : F) (p : Nat) : allE (f.ents u p) = f.all := by
  rw [F.nds_all, ← ents_x u f p, List.map_map]
  rfl
/-- an entry writes into the list of the tree it is to stand in -/
def wr (u : Int) (l : List (Option Int)) (e : En) : List (Option Int) := match e.at_ with
  | some (v, p) => if v = u then l.set p (some e.x.i) else l
  | none => l
def wrs (u : Int) (Q : List En) (l : List (Option Int)) : List (Option Int) := Q.foldl (wr u) l
theorem wrs_app (u : Int) (Q R : List En) (l : List (Option Int)) : wrs u (Q ++ R) l = wrs u R (wrs u Q l) := List.foldl_append
theorem wrs_none {u : Int} : ∀ {Q : List En}, (∀ e ∈ Q, e.up ≠ some u) → ∀ l, wrs u Q l = l
  | [], _, _ => rfl
  | e :: Q, h, l => by
    show wrs u Q (wr u l e) = l
    have h1 := h e List.mem_cons_self
    have e1 : wr u l e = l := by
      unfold wr
      split
      · rename_i v p ea
        unfold En.up at h1
        rw [ea] at h1
        rw [if_neg fun z => h1 (by rw [z]; rfl)]
      · rfl
    rw [e1]
    exact wrs_none (fun e he => h e (List.mem_cons_of_mem _ he)) l
theorem wrs_len (u : Int) : ∀ (Q : List En) (l : List (Option Int)), (wrs u Q l).length = l.length
  | [], _ => rfl
  | e :: Q, l => by
    show (wrs u Q (wr u l e)).length = _
    rw [wrs_len u Q]
    unfold wr
    split
    · split <;> simp
    · rfl
theorem wrs_ents (u : Int) : ∀ (f : F) (pre : List (Option Int)), wrs u (f.ents u pre.length) (pre ++ List.replicate f.len none) = pre ++ f.tk
  | .nil, pre => rfl
  | .hole r, pre => by
    have := wrs_ents u r (pre ++ [none])
    rw [List.length_append] at this
    show wrs u (r.ents u (pre.length + 1)) (pre ++ List.replicate (r.len + 1) none) = pre ++ (none :: r.tk)
    rw [List.replicate_succ, show pre ++ none :: List.replicate r.len none = (pre ++ [none]) ++ List.replicate r.len none by simp]
    rw [show pre ++ none :: r.tk = (pre ++ [none]) ++ r.tk by simp]
    exact this
  | .cons k i m c r, pre => by
    have := wrs_ents u r (pre ++ [some i])
    rw [List.length_append] at this
    show wrs u (r.ents u (pre.length + 1)) (wr u (pre ++ List.replicate (r.len + 1) none) ⟨⟨k, i, m, c⟩, some (u, pre.length)⟩) = pre ++ (some i :: r.tk)
    have e : wr u (pre ++ List.replicate (r.len + 1) none) ⟨⟨k, i, m, c⟩, some (u, pre.length)⟩ = (pre ++ [some i]) ++ List.replicate r.len none := by
      show (if u = u then (pre ++ List.replicate (r.len + 1) none).set pre.length (some i) else _) = _
      rw [if_pos rfl, List.set_append_right _ _ (Nat.le_refl _), Nat.sub_self, List.replicate_succ]
      simp
    rw [e, show pre ++ some i :: r.tk = (pre ++ [some i]) ++ r.tk by simp]
    exact this
/-- a tree is laid out -/
def TM.plant (M : TM) (e : En) : TM :=
  { M with key := fset M.key e.x.i e.x.k, up := fset M.up e.x.i e.up, mark := fset M.mark e.x.i e.x.m, rank := fset M.rank e.x.i 1,
           kids := fset (fun u => (M.kids u).map fun l => wr u l e) e.x.i (List.replicate e.x.c.len none) }
theorem plant_same (M : TM) (e : En) : (M.plant e).kids e.x.i = some (List.replicate e.x.c.len none) := by simp [TM.plant, fset]
theorem plant_ne (M : TM) (e : En) {i : Int} (h : i ≠ e.x.i) : (M.plant e).kids i = (M.kids i).map fun l => wr i l e := by simp [TM.plant, fset, h]
/-- what has come of M when all that wait in Q are laid out -/
structure Laid (M : TM) (Q : List En) (X : TM) : Prop where
  kind : X.kind = M.kind
  roots : X.roots = M.roots
  at_ : ∀ e ∈ Q, AtN X e.up e.x
  rank : ∀ i ∈ allE Q, X.rank i = some 1
  key : ∀ i, i ∉ allE Q → X.key i = M.key i
  up : ∀ i, i ∉ allE Q → X.up i = M.up i
  mark : ∀ i, i ∉ allE Q → X.mark i = M.mark i
  rk : ∀ i, i ∉ allE Q → X.rank i = M.rank i
  kids : ∀ i, i ∉ allE Q → X.kids i = (M.kids i).map (wrs i Q)
theorem Laid.nil (M : TM) : Laid M [] M :=
  ⟨rfl, rfl, fun _ h => (nomatch h), fun _ h => (nomatch h), fun _ _ => rfl, fun _ _ => rfl, fun _ _ => rfl, fun _ _ => rfl, fun i _ => by
    cases h : M.kids i <;> simp [wrs]⟩
def En.kids (e : En) : List En := e.x.c.ents e.x.i 0
theorem Laid.step {M X : TM} {e : En} {Q : List En} (hn : (allE (e :: Q)).Nodup) (hu : ∀ e' ∈ e :: Q, ∀ u, e'.up = some u → u ∉ allE (e :: Q)) (h : Laid (M.plant e) (Q ++ e.kids) X) : Laid M (e :: Q) X := by
  have ek : allE e.kids = e.x.c.all := allE_ents _ _ _
  have hall : ∀ i, i ∈ allE (Q ++ e.kids) → i ∈ allE (e :: Q) ∧ i ≠ e.x.i := fun i hi => by
    rw [allE_app, ek] at hi
    rw [allE_cons] at hn ⊢
    obtain ⟨n1, n2, n3⟩ := List.nodup_append.mp hn
    obtain ⟨n4, n5⟩ := List.nodup_cons.mp (show (e.x.i :: e.x.c.all).Nodup from n1)
    rcases List.mem_append.mp hi with z | z
    · exact ⟨List.mem_append_right _ z, fun w => n3 e.x.i (by simp [Nd.all]) i z w.symm⟩
    · exact ⟨List.mem_append_left _ (List.mem_cons_of_mem _ z), fun w => n4 (w ▸ z)⟩
  have hi0 : e.x.i ∉ allE (Q ++ e.kids) := fun z => (hall _ z).2 rfl
  have hi1 : e.x.i ∈ allE (e :: Q) := by rw [allE_cons]; simp [Nd.all]
  have hQ : wrs e.x.i Q (List.replicate e.x.c.len none) = List.replicate e.x.c.len none := wrs_none (fun e' he' z => hu e' (List.mem_cons_of_mem _ he') _ z hi1) _
  refine ⟨h.kind, h.roots, fun e' he' => ?_, fun i hi => ?_, fun i hi => ?_, fun i hi => ?_, fun i hi => ?_, fun i hi => ?_, fun i hi => ?_⟩
  · rcases List.mem_cons.mp he' with rfl | he'
    · refine ⟨?_, ?_, ?_, ?_, ?_⟩
      · rw [h.key _ hi0]
        exact fset_same _ _ _
      · rw [h.kids _ hi0]
        rw [plant_same M e', Option.map_some, wrs_app, hQ]
        exact congrArg some (wrs_ents e'.x.i e'.x.c [])
      · rw [h.up _ hi0]
        exact fset_same _ _ _
      · rw [h.mark _ hi0]
        exact fset_same _ _ _
      · refine atF_iff.mpr fun y hy => ?_
        rw [← ents_x e'.x.i e'.x.c 0] at hy
        obtain ⟨e2, he2, rfl⟩ := List.mem_map.mp hy
        obtain ⟨q, e3, _⟩ := ents_up _ _ _ e2 he2
        have := h.at_ e2 (List.mem_append_right _ he2)
        unfold En.up at this
        rw [e3] at this
        exact this
    · exact h.at_ e' (List.mem_append_left _ he')
  · by_cases z : i ∈ allE (Q ++ e.kids)
    · exact h.rank i z
    · have : i = e.x.i := by
        rw [allE_app, ek] at z
        rw [allE_cons] at hi
        rcases List.mem_append.mp hi with w | w
        · rcases List.mem_cons.mp w with w | w
          · exact w
          · exact absurd (List.mem_append_right _ w) z
        · exact absurd (List.mem_append_left _ w) z
      rw [h.rk i z, this]
      exact fset_same _ _ _
  all_goals
    have z : i ∉ allE (Q ++ e.kids) := fun w => hi (hall i w).1
    have ne : i ≠ e.x.i := fun w => hi (w ▸ hi1)
  · rw [h.key i z]
    exact fset_ne _ _ ne
  · rw [h.up i z]
    exact fset_ne _ _ ne
  · rw [h.mark i z]
    exact fset_ne _ _ ne
  · rw [h.rk i z]
    exact fset_ne _ _ ne
  · rw [h.kids i z]
    rw [plant_ne M e ne, Option.map_map]
    congr 1
    funext l
    show wrs i (Q ++ e.kids) (wr i l e) = wrs i (e :: Q) l
    rw [wrs_app, wrs_none (Q := e.kids)]
    · rfl
    · intro e2 he2 w
      obtain ⟨q, e3, _⟩ := ents_up _ _ _ e2 he2
      unfold En.up at w
      rw [e3] at w
      exact ne (Option.some.inj w).symm
end Mn

/-! Forests as data; laying them out. -/
namespace Mn
open PySem
theorem ndD_pur (kd : Kd) (k i : Int) (m : Bool) {ks : List D} (h : purs ks = true ∧ PyData.canLayAll0 (pys ks) = true) : (ndD kd k i m ks).pur = true ∧ (ndD kd k i m ks).py.canLay0 = true := by
  unfold ndD
  split
  · constructor
    · show (true && purs ks) = true
      rw [h.1]
      rfl
    · show (true && PyData.canLayAll0 (pys ks)) = true
      rw [h.2]
      rfl
  · split
    · constructor
      · show (true && (true && (purs ks && true))) = true
        rw [h.1]
        rfl
      · show (true && (true && (PyData.canLayAll0 (pys ks) && true))) = true
        rw [h.2]
        rfl
    · constructor
      · show (true && (purs ks && true)) = true
        rw [h.1]
        rfl
      · show (true && (PyData.canLayAll0 (pys ks) && true)) = true
        rw [h.2]
        rfl
theorem dl_pur (kd : Kd) : ∀ f : F, purs (f.dl kd) = true ∧ PyData.canLayAll0 (pys (f.dl kd)) = true
  | .nil => ⟨rfl, rfl⟩
  | .hole r => by
    obtain ⟨h1, h2⟩ := dl_pur kd r
    exact ⟨by show (true && purs (r.dl kd)) = true; rw [h1]; rfl, by show (true && PyData.canLayAll0 (pys (r.dl kd))) = true; rw [h2]; rfl⟩
  | .cons k i m c r => by
    obtain ⟨h1, h2⟩ := dl_pur kd r
    obtain ⟨h3, h4⟩ := ndD_pur kd k i m (dl_pur kd c)
    exact ⟨by show ((ndD kd k i m (c.dl kd)).pur && purs (r.dl kd)) = true; rw [h1, h3]; rfl, by show ((ndD kd k i m (c.dl kd)).py.canLay0 && PyData.canLayAll0 (pys (r.dl kd))) = true; rw [h2, h4]; rfl⟩
theorem nd_dat (kd : Kd) (x : Nd) : (x.d kd).dat = true := by
  obtain ⟨h1, h2⟩ := ndD_pur kd x.k x.i x.m (dl_pur kd x.c)
  unfold D.dat Nd.d
  rw [h1, h2]
  rfl
theorem dl_dat (kd : Kd) (f : F) : (D.tup (f.dl kd)).dat = true := by
  obtain ⟨h1, h2⟩ := dl_pur kd f
  show (purs (f.dl kd) && PyData.canLayAll0 (pys (f.dl kd))) = true
  rw [h1, h2]
  rfl
/-- a tree begins with its item -/
theorem nd_head (kd : Kd) (k i : Int) (m : Bool) (ks : List D) : ∃ r, ndD kd k i m ks = .tup (itD (k, i) :: r) ∧ (isCut kd = true → r = [.bl m, .tup ks]) := by
  unfold ndD
  cases kd <;> exact ⟨_, rfl, fun z => by first | rfl | cases z⟩
def isMany : Kd → Bool
  | .count => true
  | .cut => true
  | _ => false
/-- a shape as it is handed about -/
def shD (kd : Kd) (f : F) : D := if isMany kd then .tup (f.dl kd) else (f.dl kd).headD (.tup [])
/-- the trees of a shape -/
structure Rt (kd : Kd) (f : F) : Prop where
  full : f.full = true
  wf : f.wf kd
  one : isMany kd = false → f.len ≤ 1
theorem neTup {S : Store} {kd : Kd} {k i : Int} {m : Bool} {ks : List D} (h : purs ks = true ∧ PyData.canLayAll0 (pys ks) = true) {K : Bool → Prop} (q : K true) : cmpB .NotEq (ndD kd k i m ks) (.tup []) S K := by
  obtain ⟨h3, h4⟩ := ndD_pur kd k i m h
  obtain ⟨r, e, _⟩ := nd_head kd k i m ks
  rw [e] at h3 h4 ⊢
  refine nenil_pur (show (_ && _) = true by rw [h3, h4]; rfl) q
theorem eqTup {S : Store} {kd : Kd} {k i : Int} {m : Bool} {ks : List D} (h : purs ks = true ∧ PyData.canLayAll0 (pys ks) = true) {K : Bool → Prop} (q : K false) : cmpB .Eq (ndD kd k i m ks) (.tup []) S K := by
  obtain ⟨h3, h4⟩ := ndD_pur kd k i m h
  obtain ⟨r, e, _⟩ := nd_head kd k i m ks
  rw [e] at h3 h4 ⊢
  refine eqnil_pur (show (_ && _) = true by rw [h3, h4]; rfl) q
theorem trees_of_ok (n : Nat) {kd : Kd} {f : F} {S : Store} {Q : DK} {X : XK} (r : Rt kd f) (q : ∀ S', Ext S S' → S'[S.length]? = some (.lst (f.dl kd)) → Q (.ref S.length) S') : callN PP (n + 1) f_trees_of [.str kd.s, shD kd f] S Q X := by
  refine enter rfl rfl ?_
  show wpCs _ k_trees_of_0 _ [some (.str kd.s), some (shD kd f)] S
  bv_omega
  refine kd_in (a := .count) (b := .cut) ?_
  rw [show (decide (kd = .count) || decide (kd = .cut)) = isMany kd by cases kd <;> rfl]
  unfold shD
  cases hm : isMany kd with
  | true =>
    show wpCs _ k_trees_of_0a0 _ _ _
    bv_omega
    exact q _ (Ext.push _ _) (last_get _ _)
  | false =>
    show wpCs _ k_trees_of_1 _ _ _
    have h1 := r.one hm
    have hf := r.full
    cases f with
    | nil =>
      bv_omega
      exact eqnil_pur rfl (by ac_rfl; exact q _ (Ext.push _ _) (last_get _ _))
    | hole g => cases hf
    | cons k i m c g =>
      cases g with
      | hole _ => cases hf
      | cons _ _ _ _ g' =>
        have : g'.len + 1 + 1 ≤ 1 := h1
        omega
      | nil =>
        show wpCs _ k_trees_of_1 _ [some (.str kd.s), some (ndD kd k i m (c.dl kd))] S
        bv_omega
        refine eqTup (dl_pur kd c) ?_
        ac_rfl
        exact q _ (Ext.push _ _) (last_get _ _)
theorem kids_of_ok (n : Nat) {kd : Kd} {x : Nd} {S : Store} {Q : DK} {X : XK} (q : Q (.ref S.length) (S ++ [.lst (x.c.dl kd)])) : callN PP (n + 1) f_kids_of [.str kd.s, x.d kd] S Q X := by
  refine enter rfl rfl ?_
  show wpCs _ k_kids_of_0 _ [some (.str kd.s), some (x.d kd)] S
  bv_omega
  refine kd_in (a := .left) (b := .skew) ?_
  rw [show (decide (kd = .left) || decide (kd = .skew)) = isTwo kd by cases kd <;> rfl]
  unfold Nd.d ndD
  cases h2 : isTwo kd with
  | true =>
    show wpCs _ k_kids_of_0a0 _ [_, some (.tup (itD (x.k, x.i) :: x.c.dl kd))] _
    bv_omega
    rw [cut1]
    exact q
  | false =>
    cases hc : isCut kd with
    | true =>
      show wpCs _ k_kids_of_1 _ [_, some (.tup [itD (x.k, x.i), .bl x.m, .tup (x.c.dl kd)])] _
      bv_omega
      rw [ixm3]
      ac_rfl
      exact q
    | false =>
      show wpCs _ k_kids_of_1 _ [_, some (.tup [itD (x.k, x.i), .tup (x.c.dl kd)])] _
      bv_omega
      rw [ixm2]
      ac_rfl
      exact q
/-! trees that wait, as data -/
def En.pl (e : En) : Int := match e.at_ with
  | some (_, p) => p
  | none => -1
def En.d (kd : Kd) (e : En) : D := .tup [e.x.d kd, oI e.up, .int e.pl]
def notNil2 : D → Bool
  | .tup [_, d] => notNilD d
  | _ => false
where notNilD : D → Bool
  | .tup [] => false
  | _ => true
def mkE (u : Int) : D → D
  | .tup [p, d] => .tup [d, .int u, p]
  | d => d
theorem notNil_nd (kd : Kd) (k i : Int) (m : Bool) (ks : List D) : notNil2.notNilD (ndD kd k i m ks) = true := by
  obtain ⟨r, e, _⟩ := nd_head kd k i m ks
  rw [e]
  rfl
theorem ents_d (kd : Kd) (u : Int) : ∀ (f : F) (p : Nat), ((enumFrom p (f.dl kd)).filter notNil2).map (mkE u) = (f.ents u p).map (En.d kd)
  | .nil, _ => rfl
  | .hole r, p => ents_d kd u r (p + 1)
  | .cons k i m c r, p => by
    show ((D.tup [.int p, ndD kd k i m (c.dl kd)] :: enumFrom (p + 1) (r.dl kd)).filter notNil2).map (mkE u) = _
    rw [List.filter_cons, if_pos (show notNil2 (.tup [.int p, ndD kd k i m (c.dl kd)]) = true from notNil_nd kd k i m _), List.map_cons, ents_d kd u r (p + 1)]
    rfl
theorem ents_len (u : Int) : ∀ (f : F) (p : Nat), (f.ents u p).length ≤ f.sz
  | .nil, _ => Nat.le_refl _
  | .hole r, p => ents_len u r (p + 1)
  | .cons k i m c r, p => by
    have := ents_len u r (p + 1)
    show (r.ents u (p + 1)).length + 1 ≤ c.sz + r.sz + 1
    omega
/-- how many items wait -/
def szE (Q : List En) : Nat := (Q.map fun e => e.x.sz).sum
theorem szE_cons (e : En) (Q : List En) : szE (e :: Q) = e.x.sz + szE Q := by simp [szE]
theorem szE_app (Q R : List En) : szE (Q ++ R) = szE Q + szE R := by simp [szE]
theorem szE_ents (u : Int) (f : F) (p : Nat) : szE (f.ents u p) = f.sz := by
  rw [← F.nds_sz, ← ents_x u f p]
  simp [szE, szN, List.map_map]
  rfl
theorem szE_kids (e : En) : szE e.kids + 1 = e.x.sz := by
  unfold En.kids
  rw [szE_ents]
  rfl
theorem szE_len : ∀ Q : List En, Q.length ≤ szE Q
  | [] => Nat.le_refl _
  | e :: Q => by
    have := szE_len Q
    rw [szE_cons, List.length_cons]
    unfold Nd.sz
    omega
/-- level by level -/
def bfsN : Nat → List Nd → List Nd
  | _, [] => []
  | 0, _ => []
  | n + 1, x :: q => x :: bfsN n (q ++ x.c.nds)
/-! what waits is in order -/
structure Wait (kd : Kd) (M : TM) (Q : List En) : Prop where
  wf : ∀ e ∈ Q, e.x.wf kd
  nd : (allE Q).Nodup
  up : ∀ e ∈ Q, ∀ u p, e.at_ = some (u, p) → u ∉ allE Q ∧ ∃ l, M.kids u = some l ∧ p < l.length
theorem Wait.laid {kd : Kd} {M X : TM} {e : En} {Q : List En} (w : Wait kd M (e :: Q)) (h : Laid (M.plant e) (Q ++ e.kids) X) : Laid M (e :: Q) X :=
  Laid.step w.nd (fun e' he' u hu => by
    unfold En.up at hu
    cases ha : e'.at_ with
    | none => rw [ha] at hu; cases hu
    | some up =>
      obtain ⟨v, p⟩ := up
      rw [ha] at hu
      cases hu
      exact (w.up e' he' _ p ha).1) h
theorem Wait.step {kd : Kd} {M : TM} {e : En} {Q : List En} (w : Wait kd M (e :: Q)) : Wait kd (M.plant e) (Q ++ e.kids) := by
  have ek : allE e.kids = e.x.c.all := allE_ents _ _ _
  have hn := w.nd
  rw [allE_cons] at hn
  obtain ⟨n1, n2, n3⟩ := List.nodup_append.mp hn
  obtain ⟨n4, n5⟩ := List.nodup_cons.mp (show (e.x.i :: e.x.c.all).Nodup from n1)
  have sub : ∀ u, u ∈ allE (Q ++ e.kids) → u ∈ allE (e :: Q) := fun u hu => by
    rw [allE_app, ek] at hu
    rw [allE_cons]
    rcases List.mem_append.mp hu with z | z
    · exact List.mem_append_right _ z
    · exact List.mem_append_left _ (List.mem_cons_of_mem _ z)
  refine ⟨fun e' he' => ?_, ?_, fun e' he' u p ha => ?_⟩
  · rcases List.mem_append.mp he' with z | z
    · exact w.wf e' (List.mem_cons_of_mem _ z)
    · have : e'.x ∈ e.x.c.nds := by rw [← ents_x e.x.i e.x.c 0]; exact List.mem_map.mpr ⟨e', z, rfl⟩
      exact F.nds_wf (w.wf e List.mem_cons_self).2.2 _ this
  · rw [allE_app, ek]
    refine List.nodup_append.mpr ⟨n2, n5, fun a ha b hb e1 => ?_⟩
    exact n3 b (List.mem_cons_of_mem _ hb) a ha e1.symm
  · rcases List.mem_append.mp he' with z | z
    · obtain ⟨h1, l, h2, h3⟩ := w.up e' (List.mem_cons_of_mem _ z) u p ha
      refine ⟨fun w => h1 (sub u w), wr u l e, ?_, ?_⟩
      · rw [plant_ne M e (fun w => h1 (by rw [w, allE_cons]; simp [Nd.all])), h2]
        rfl
      · have := wrs_len u [e] l
        show p < (wrs u [e] l).length
        omega
    · obtain ⟨q, e3, h1, h2⟩ := ents_up _ _ _ e' z
      rw [e3] at ha
      cases ha
      refine ⟨fun w => ?_, _, plant_same M e, by rw [List.length_replicate]; omega⟩
      rw [allE_app, ek] at w
      rcases List.mem_append.mp w with z | z
      · exact n3 e.x.i (by simp [Nd.all]) e.x.i z rfl
      · exact n4 z
theorem Step.setN {B B' : Nat → Prop} {S S' : Store} {n : Nat} (s : Step B B' S S') (o : Ob) (h : S.length ≤ n) : Step B B' S (S'.set n o) :=
  ⟨s.own, by rw [List.length_set]; exact s.len, fun j hj hb => by rw [List.getElem?_set_ne (fun z => by omega)]; exact s.frm j hj hb⟩
theorem Step.pushN {B B' : Nat → Prop} {S S' : Store} (s : Step B B' S S') (T : List Ob) : Step B B' S (S' ++ T) := s.trans (Step.push T)
end Mn

namespace Mn
open PySem
theorem TM.ext {a b : TM} (h1 : a.kind = b.kind) (h2 : a.key = b.key) (h3 : a.kids = b.kids) (h4 : a.up = b.up) (h5 : a.mark = b.mark) (h6 : a.rank = b.rank) (h7 : a.roots = b.roots) : a = b := by
  cases a
  cases b
  simp only at h1 h2 h3 h4 h5 h6 h7
  subst h1 h2 h3 h4 h5 h6 h7
  rfl
theorem fset_fset {α : Type} (f : Int → Option α) (i : Int) (v w : α) : fset (fset f i v) i w = fset f i w := by
  funext j
  unfold fset
  split <;> rfl
/-- what stays, but for some places -/
structure StepX (E : Nat → Prop) (B B' : Nat → Prop) (S S' : Store) : Prop where
  own : ∀ j, B' j → B j ∨ S.length ≤ j
  len : S.length ≤ S'.length
  frm : ∀ j, j < S.length → ¬ B j → ¬ E j → S'[j]? = S[j]?
theorem Step.x {B B' : Nat → Prop} {S S' : Store} (s : Step B B' S S') (E : Nat → Prop) : StepX E B B' S S' := ⟨s.own, s.len, fun j h1 h2 _ => s.frm j h1 h2⟩
theorem StepX.trans {E B B1 B2 : Nat → Prop} {S S1 S2 : Store} (a : StepX E B B1 S S1) (b : StepX E B1 B2 S1 S2) : StepX E B B2 S S2 :=
  ⟨fun j h => by
    rcases b.own j h with h | h
    · exact a.own j h
    · exact .inr (Nat.le_trans a.len h), Nat.le_trans a.len b.len, fun j hj hb he => by
    have h1 : ¬ B1 j := fun z => by
      rcases a.own j z with h | h
      · exact hb h
      · omega
    rw [b.frm j (Nat.lt_of_lt_of_le hj a.len) h1 he, a.frm j hj hb he]⟩
theorem StepX.set {E B : Nat → Prop} {S : Store} {n : Nat} (o : Ob) (h : E n) : StepX E B B S (S.set n o) :=
  ⟨fun _ z => .inl z, by rw [List.length_set]; exact Nat.le_refl _, fun j _ _ he => by rw [List.getElem?_set_ne (fun z => by subst z; exact he h)]⟩
theorem StepX.push {E B : Nat → Prop} {S : Store} (T : List Ob) : StepX E B B S (S ++ T) := (Step.push T).x E
theorem up_same {S : Store} {t N : Nat} {B : Nat → Prop} {M : TM} {w : TW} (T : TabW S t B N M w) {i : Int} (h : M.up i ≠ none) (v : Option Int) : (dPut w.k3 (.inl i) (oI v)).length ≤ N := by
  have hs : (dGet w.k3 (.inl i)).isSome = true := by
    rw [T.g3]
    cases hr : M.up i with
    | none => exact absurd hr h
    | some _ => rfl
  rw [dPut_same hs]
  exact T.len.2.2.1
theorem kids_same {S : Store} {t N : Nat} {B : Nat → Prop} {M : TM} {w : TW} (T : TabW S t B N M w) {i : Int} {l : List (Option Int)} (h : M.kids i = some l) (v : D) : (dPut w.k2 (.inl i) v).length ≤ N := by
  rw [dPut_same (kids_some T h)]
  exact T.len.2.1
theorem dl_mem (kd : Kd) : ∀ (f : F), ∀ d ∈ f.dl kd, d = .tup [] ∨ ∃ k i m c, d = ndD kd k i m (F.dl kd c)
  | .nil, d, h => nomatch h
  | .hole r, d, h => by
    rcases List.mem_cons.mp h with z | z
    · exact .inl z
    · exact dl_mem kd r d z
  | .cons k i m c r, d, h => by
    rcases List.mem_cons.mp h with z | z
    · exact .inr ⟨k, i, m, c, z⟩
    · exact dl_mem kd r d z
/-- one tree is laid out: from its item on to the list of those within -/
theorem plant_ok (m : Nat) {S : Store} {t N fr wr_ or_ : Nat} {B : Nat → Prop} {M : TM} {e : En} {sh : D} {fnd : List Int} {W : List D} {O : List D} {K : Ends} {x8 x9 x10 x11 : Option D} (T : Tab S t B N M) (hN : N + 2 ≤ 10000) (hw : e.x.wf M.kind) (hup : ∀ u p, e.at_ = some (u, p) → u ≠ e.x.i ∧ ∃ l, M.kids u = some l ∧ p < l.length)
    (hf : S[fr]? = some (.lst (fnd.map D.int))) (hfb : ¬ B fr) (hfl : fnd.length ≤ 10000) (hw0 : S[wr_]? = some (.lst W)) (hwb : ¬ B wr_) (ho : S[or_]? = some (.lst O)) (hob : ¬ B or_) (hol : O.length ≤ 10000) (n1 : fr ≠ wr_) (n2 : fr ≠ or_) (n3 : wr_ ≠ or_) (hsz : e.x.c.sz ≤ 10000) (hWl : W.length ≤ 10000)
    (q : ∀ S' B' y9 y10 y11, Tab S' t B' (N + 2) (M.plant e) → StepX (fun j => j = fr ∨ j = wr_ ∨ j = or_) B B' S S' → ¬ B' fr → ¬ B' wr_ → ¬ B' or_ →
      S'[fr]? = some (.lst ((fnd ++ (match e.at_ with | none => [e.x.i] | some _ => [])).map D.int)) → S'[wr_]? = some (.lst (W ++ e.kids.map (En.d M.kind))) → S'[or_]? = some (.lst (O ++ [.int e.x.i])) →
      K.nx [some (.ref t), some sh, some (.ref fr), some (.ref wr_), some (e.x.d M.kind), some (.ref or_), some (oI e.up), some (.int e.pl), some (.int e.x.i), y9, y10, y11] S') :
    wpCs (callN PP (m + 1)) k_Table_opened_3a1 K [some (.ref t), some sh, some (.ref fr), some (.ref wr_), some (e.x.d M.kind), some (.ref or_), some (oI e.up), some (.int e.pl), x8, x9, x10, x11] S := by
  obtain ⟨w, T⟩ := T
  obtain ⟨r, er, ec⟩ := nd_head M.kind e.x.k e.x.i e.x.m (e.x.c.dl M.kind)
  have ed : e.x.d M.kind = .tup (.tup [.int e.x.k, .int e.x.i] :: r) := er
  have hclen : e.x.c.len ≤ 30000 := by
    rcases F.len_le M.kind e.x.c hw.2.2 with z | z
    · omega
    · have := hw.1 z
      omega
  generalize hE : (fun j => j = fr ∨ j = wr_ ∨ j = or_) = E at q
  rw [ed] at q ⊢
  bv_omega
  bv_omega
  refine meth_go T.ins rfl ?_
  refine add_ok m (k := e.x.k) (i := e.x.i) ⟨w, T⟩ (by omega) fun S1 B1 T1 s1 => ?_
  obtain ⟨w1, T1⟩ := T1
  obtain ⟨hf1, hfb1⟩ := s1.get hf hfb
  obtain ⟨hw1, hwb1⟩ := s1.get hw0 hwb
  obtain ⟨ho1, hob1⟩ := s1.get ho hob
  have st1 := s1.x E
  ac_rfl
  bv_omega
  refine attr_go T1.ins (tb_ups _ _) ?_
  refine seti_go T1.d3 (by have := T1.len.2.2.1; omega) ?_
  have T2 := T1.set3 (N' := N + 1) e.x.i e.up (Nat.le_refl _) (up_same T1 (by show fset M.up e.x.i none e.x.i ≠ none; rw [fset_same]; simp) _) (by omega)
  have s2 := Step.set (B := B1) (S := S1) (.dct (dPut w1.k3 (.inl e.x.i) (oI e.up))) T1.own.2.2.2.1
  obtain ⟨hf2, hfb2⟩ := s2.get hf1 hfb1
  obtain ⟨hw2, hwb2⟩ := s2.get hw1 hwb1
  obtain ⟨ho2, hob2⟩ := s2.get ho1 hob1
  have st2 := st1.trans (s2.x E)
  generalize S1.set w1.a3 (.dct (dPut w1.k3 (.inl e.x.i) (oI e.up))) = S2 at T2 hf2 hw2 ho2 st2 ⊢
  generalize hM2 : ({ M.add e.x.k e.x.i with up := fset (M.add e.x.k e.x.i).up e.x.i e.up } : TM) = M2 at T2
  generalize hw2e : ({ w1 with k3 := dPut w1.k3 (.inl e.x.i) (oI e.up) } : TW) = w2 at T2
  have kd2 : M2.kind = M.kind := by rw [← hM2]; rfl
  ac_rfl
  -- the mark
  have rest : wpCs (callN PP (m + 1)) k_Table_opened_3a5 K [some (.ref t), some sh, some (.ref fr), some (.ref wr_), some (.tup (.tup [.int e.x.k, .int e.x.i] :: r)), some (.ref or_), some (oI e.up), some (.int e.pl), some (.int e.x.i), x9, x10, x11] (S2.set w2.a4 (.dct (dPut w2.k4 (.inl e.x.i) (.bl e.x.m)))) := by
    have T3 := T2.set4 (N' := N + 2) e.x.i e.x.m (by omega) (by have := dPut_len2 w2.k4 (.inl e.x.i) (.bl e.x.m); have := T2.len.2.2.2.1; omega) (by omega)
    have s3 := Step.set (B := B1) (S := S2) (.dct (dPut w2.k4 (.inl e.x.i) (.bl e.x.m))) T2.own.2.2.2.2.1
    obtain ⟨hf3, hfb3⟩ := s3.get hf2 hfb2
    obtain ⟨hw3, hwb3⟩ := s3.get hw2 hwb2
    obtain ⟨ho3, hob3⟩ := s3.get ho2 hob2
    have st3 := st2.trans (s3.x E)
    generalize S2.set w2.a4 (.dct (dPut w2.k4 (.inl e.x.i) (.bl e.x.m))) = S3 at T3 hf3 hw3 ho3 st3 ⊢
    generalize hM3 : ({ M2 with mark := fset M2.mark e.x.i e.x.m } : TM) = M3 at T3
    generalize ({ w2 with k4 := dPut w2.k4 (.inl e.x.i) (.bl e.x.m) } : TW) = w3 at T3
    have kd3 : M3.kind = M.kind := by rw [← hM3]; exact kd2
    have kids3 : M3.kids = fset M.kids e.x.i (if isTwo M.kind then [none, none] else []) := by rw [← hM3, ← hM2]; rfl
    -- from the list of those within on
    have rest2 : ∀ (S4 : Store) (M4 : TM) (w4 : TW) (fnd4 : List Int), TabW S4 t B1 (N + 2) M4 w4 → StepX E B B1 S S4 → S4[fr]? = some (.lst (fnd4.map D.int)) → S4[wr_]? = some (.lst W) → S4[or_]? = some (.lst O) →
        M4.kind = M.kind → (∃ l, M4.kids e.x.i = some l) → { M4 with kids := fset M4.kids e.x.i (List.replicate e.x.c.len none) } = M.plant e → fnd4 = fnd ++ (match e.at_ with | none => [e.x.i] | some _ => []) →
        wpCs (callN PP (m + 1)) k_Table_opened_3a6 K [some (.ref t), some sh, some (.ref fr), some (.ref wr_), some (.tup (.tup [.int e.x.k, .int e.x.i] :: r)), some (.ref or_), some (oI e.up), some (.int e.pl), some (.int e.x.i), x9, x10, x11] S4 := by
      intro S4 M4 w4 fnd4 T4 st4 hf4 hw4 ho4 kd4 hk4 hM4 hfnd
      bv_omega
      refine attr_go T4.ins (tb_kind _ _) ?_
      rw [kd4, ← ed]
      refine kids_of_ok m ?_
      rw [ed]
      have T5 := T4.keep (S' := S4 ++ [.lst (e.x.c.dl M.kind)]) fun j o _ h => get_push h _
      have hk5 := last_get S4 (.lst (e.x.c.dl M.kind))
      have hko := get_lt ho4
      have hf5 := get_push hf4 [.lst (e.x.c.dl M.kind)]
      have hw5 := get_push hw4 [.lst (e.x.c.dl M.kind)]
      have ho5 := get_push ho4 [.lst (e.x.c.dl M.kind)]
      have st5 := st4.trans (StepX.push [.lst (e.x.c.dl M.kind)])
      generalize S4 ++ [.lst (e.x.c.dl M.kind)] = S5 at T5 hk5 hf5 hw5 ho5 st5 ⊢
      generalize S4.length = ka at hk5 hko ⊢
      ac_rfl
      bv_omega
      have T6 := T5.keep (S' := S5 ++ [.lst [.non]]) fun j o _ h => get_push h _
      have hk6 := get_push hk5 [.lst [.non]]
      have hl6 := last_get S5 (.lst [.non])
      have hf6 := get_push hf5 [.lst [.non]]
      have hw6 := get_push hw5 [.lst [.non]]
      have ho6 := get_push ho5 [.lst [.non]]
      have st6 := st5.trans (StepX.push [.lst [.non]])
      generalize S5 ++ [.lst [.non]] = S6 at T6 hk6 hl6 hf6 hw6 ho6 st6 ⊢
      generalize S5.length = la at hl6 ⊢
      refine len_go hk6 (by rw [F.dl_len]; omega) ?_
      rw [F.dl_len]
      refine mulN_go hl6 (by omega) ?_
      have er2 : List.replicate e.x.c.len D.non = (List.replicate e.x.c.len (none : Option Int)).map oI := by rw [List.map_replicate]; rfl
      rw [er2]
      obtain ⟨nn1, nn2⟩ := new_no T6
      have T7 := new_own T6 (.lst ((List.replicate e.x.c.len (none : Option Int)).map oI))
      have s7 := new_step (B := B1) (S := S6) (.lst ((List.replicate e.x.c.len (none : Option Int)).map oI))
      have hb7 := last_get S6 (.lst ((List.replicate e.x.c.len (none : Option Int)).map oI))
      have hk7 := get_push hk6 [.lst ((List.replicate e.x.c.len (none : Option Int)).map oI)]
      obtain ⟨hf7, hfb7⟩ := s7.get hf6 hfb3
      obtain ⟨hw7, hwb7⟩ := s7.get hw6 hwb3
      obtain ⟨ho7, hob7⟩ := s7.get ho6 hob3
      have st7 := st6.trans (s7.x E)
      generalize S6 ++ [.lst ((List.replicate e.x.c.len (none : Option Int)).map oI)] = S7 at T7 hb7 hk7 hf7 hw7 ho7 st7 ⊢
      generalize S6.length = na at T7 hb7 nn1 nn2 hfb7 hwb7 hob7 st7 ⊢
      refine attr_go T7.ins (tb_kids _ _) ?_
      refine seti_go T7.d2 (by have := T7.len.2.1; omega) ?_
      obtain ⟨lk, hk4⟩ := hk4
      have T8 := T7.set2 (N' := N + 2) e.x.i (List.replicate e.x.c.len none) hb7 nn2 (.inr rfl) nn1 (Nat.le_refl _) (kids_same T7 hk4 _) (by omega)
      rw [hM4] at T8
      have s8 := Step.set (B := fun j => B1 j ∨ j = na) (S := S7) (.dct (dPut w4.k2 (.inl e.x.i) (.ref na))) T7.own.2.2.1
      have hk8 : (S7.set w4.a2 (.dct (dPut w4.k2 (.inl e.x.i) (.ref na))))[ka]? = _ := get_set_ne hk7 (ne_obj T7.d2 hk7 (by simp))
      obtain ⟨hf8, hfb8⟩ := s8.get hf7 hfb7
      obtain ⟨hw8, hwb8⟩ := s8.get hw7 hwb7
      obtain ⟨ho8, hob8⟩ := s8.get ho7 hob7
      have st8 := st7.trans (s8.x E)
      generalize S7.set w4.a2 (.dct (dPut w4.k2 (.inl e.x.i) (.ref na))) = S8 at T8 hk8 hf8 hw8 ho8 st8 ⊢
      bv_omega
      refine ⟨recv_l ho8, append_go ho8 (by omega) ?_⟩
      have T9 := Tab.setO ⟨_, T8⟩ (.lst (O ++ [.int e.x.i])) hob8
      have ho9 : (S8.set or_ (.lst (O ++ [.int e.x.i])))[or_]? = _ := get_set ho8
      have hf9 : (S8.set or_ (.lst (O ++ [.int e.x.i])))[fr]? = _ := get_set_ne hf8 (Ne.symm n2)
      have hw9 : (S8.set or_ (.lst (O ++ [.int e.x.i])))[wr_]? = _ := get_set_ne hw8 (Ne.symm n3)
      have hEor : E or_ := by rw [← hE]; exact .inr (.inr rfl)
      have hEwr : E wr_ := by rw [← hE]; exact .inr (.inl rfl)
      have st9 := st8.trans (StepX.set (B := fun j => B1 j ∨ j = na) (S := S8) (.lst (O ++ [.int e.x.i])) hEor)
      have hk9 : (S8.set or_ (.lst (O ++ [.int e.x.i])))[ka]? = some (.lst (e.x.c.dl M.kind)) := get_set_ne hk8 (by omega)
      generalize S8.set or_ (.lst (O ++ [.int e.x.i])) = S9 at T9 ho9 hf9 hw9 hk9 st9 ⊢
      ac_rfl
      bv_omega
      refine it_lst hk9 ?_
      refine lcB_map (S1 := S9) notNil2 (mkE e.x.i) (fun acc => lst_of (get_push hk9 _)) (by unfold enumL; rw [List.length_nil, enumFrom_len, F.dl_len]; omega) ?_ ?_
      · intro d hd
        obtain ⟨j, hj⟩ := List.getElem?_of_mem hd
        obtain ⟨x, hx, rfl⟩ := enumF_get hj
        refine ⟨_, rfl, fun acc => ⟨fun Y hY => ?_, fun _ Y hY => ?_⟩⟩
        · ac_rfl
          rcases dl_mem M.kind e.x.c x (List.mem_of_getElem? hx) with rfl | ⟨k', i', m', c', rfl⟩
          · exact nenil_pur rfl hY
          · refine neTup (dl_pur M.kind c') ?_
            have : notNil2 (.tup [.int (j : Int), ndD M.kind k' i' m' (c'.dl M.kind)]) = true := notNil_nd M.kind k' i' m' _
            rw [this] at hY
            exact hY
        · ac_rfl
          exact hY
      · rw [List.nil_append, show enumL (e.x.c.dl M.kind) = enumFrom 0 (e.x.c.dl M.kind) from rfl, ents_d]
        have hel := ents_len e.x.i e.x.c 0
        refine iadd_go (get_push hw9 _) (last_get _ _) (by rw [List.length_map]; omega) ?_
        have T10 := (Tab.push T9 [.lst ((e.x.c.ents e.x.i 0).map (En.d M.kind))]).setO (.lst (W ++ (e.x.c.ents e.x.i 0).map (En.d M.kind))) hwb8
        have st10 := (st9.trans (StepX.push [.lst ((e.x.c.ents e.x.i 0).map (En.d M.kind))])).trans (StepX.set (.lst (W ++ (e.x.c.ents e.x.i 0).map (En.d M.kind))) hEwr)
        have hf10 : ((S9 ++ [Ob.lst ((e.x.c.ents e.x.i 0).map (En.d M.kind))]).set wr_ (.lst (W ++ (e.x.c.ents e.x.i 0).map (En.d M.kind))))[fr]? = _ := get_set_ne (get_push hf9 _) (Ne.symm n1)
        rw [hfnd] at hf10
        exact q _ _ _ _ _ T10 st10 hfb8 hwb8 hob8 hf10 (get_set (get_push hw9 _)) (get_set_ne (get_push ho9 _) n3)
    -- where it is to stand
    cases ha : e.at_ with
    | none =>
      have eu : e.up = none := by unfold En.up; rw [ha]; rfl
      have hEfr : E fr := by rw [← hE]; exact .inl rfl
      have T4 : TabW (S3.set fr (.lst ((fnd ++ [e.x.i]).map D.int))) t B1 (N + 2) M3 w3 := T3.keep fun j o bj hj => get_set_ne hj (fun z => by subst z; exact hfb3 bj)
      have go := rest2 _ M3 w3 (fnd ++ [e.x.i]) T4 (st3.trans (StepX.set _ hEfr)) (get_set hf3) (get_set_ne hw3 n1) (get_set_ne ho3 n2) kd3 ⟨_, by rw [kids3]; exact fset_same _ _ _⟩ ?_ (by rw [ha])
      · rw [eu] at go ⊢
        show wpCs _ k_Table_opened_3a5 _ [_, _, _, _, _, _, some .non, _, _, _, _, _] _
        bv_omega
        show wpCs _ k_Table_opened_3a5a0 _ _ _
        bv_omega
        refine ⟨recv_l hf3, append_go hf3 (by rw [List.length_map]; omega) ?_⟩
        ac_rfl
        rw [show fnd.map D.int ++ [.int e.x.i] = (fnd ++ [e.x.i]).map D.int by rw [List.map_append]; rfl]
        exact go
      · rw [kids3, fset_fset, ← hM3, ← hM2]
        refine TM.ext rfl rfl ?_ ?_ rfl ?_ rfl
        · funext j
          by_cases z : j = e.x.i
          · subst z
            rw [plant_same]
            exact fset_same _ _ _
          · rw [plant_ne M e z]
            show fset _ _ _ j = _
            rw [fset_ne _ _ z]
            have : ∀ l, wr j l e = l := fun l => by unfold wr; rw [ha]
            simp only [this]
            cases M.kids j <;> rfl
        · exact fset_fset _ _ _ _
        · rfl
    | some at_ =>
      obtain ⟨u, p⟩ := at_
      obtain ⟨hui, l, hl, hp⟩ := hup u p ha
      have eu : e.up = some u := by unfold En.up; rw [ha]; rfl
      have ep : e.pl = p := by unfold En.pl; rw [ha]
      have hl3 : M3.kids u = some l := by rw [kids3, fset_ne _ _ hui]; exact hl
      obtain ⟨b, e1, e2, e3, e4⟩ := kids_at T3 hl3
      have T4 := T3.mod2 u (l.set p (some e.x.i)) e1
      have s4 := Step.set (B := B1) (S := S3) (.lst ((l.set p (some e.x.i)).map oI)) e4
      have go := rest2 _ _ w3 fnd T4 (st3.trans (s4.x E)) (s4.get hf3 hfb3).1 (s4.get hw3 hwb3).1 (s4.get ho3 hob3).1 kd3 ⟨_, by show fset M3.kids u _ e.x.i = _; rw [fset_ne _ _ (Ne.symm hui), kids3]; exact fset_same _ _ _⟩ ?_ (by rw [ha, List.append_nil])
      · rw [eu, ep] at go ⊢
        show wpCs _ k_Table_opened_3a5 _ [_, _, _, _, _, _, some (.int u), _, _, _, _, _] _
        bv_omega
        show wpCs _ k_Table_opened_3a5b0 _ _ _
        bv_omega
        refine attr_go T3.ins (tb_kids _ _) ?_
        refine ixi_go T3.d2 e1 ?_
        refine setl_go e2 rfl (by rw [List.length_map]; exact hp) ?_
        ac_rfl
        rw [show (l.map oI).set p (.int e.x.i) = (l.set p (some e.x.i)).map oI by rw [List.map_set]; rfl]
        exact go
      · rw [kids3, ← hM3, ← hM2]
        refine TM.ext rfl rfl ?_ ?_ rfl ?_ rfl
        · funext j
          by_cases z : j = e.x.i
          · subst z
            rw [plant_same]
            exact fset_same _ _ _
          · rw [plant_ne M e z]
            show fset (fset (fset M.kids e.x.i _) u _) _ _ j = _
            rw [fset_ne _ _ z]
            by_cases z2 : j = u
            · subst z2
              rw [fset_same, hl]
              show _ = some (wr j l e)
              unfold wr
              rw [ha]
              show _ = some (if j = j then _ else _)
              rw [if_pos rfl]
            · rw [fset_ne _ _ z2, fset_ne _ _ z]
              have : ∀ l, wr j l e = l := fun l => by
                unfold wr
                rw [ha]
                show (if u = j then _ else _) = _
                rw [if_neg (Ne.symm z2)]
              simp only [this]
              cases M.kids j <;> rfl
        · exact fset_fset _ _ _ _
        · rfl
  bv_omega
  refine attr_go T2.ins (tb_kind _ _) ?_
  refine kd_eq (b := .cut) ?_
  rw [kd2, show decide (M.kind = .cut) = isCut M.kind by cases M.kind <;> rfl]
  cases hc : isCut M.kind with
  | true =>
    obtain rfl := ec hc
    ac_rfl
    refine attr_go T2.ins (tb_marks _ _) ?_
    refine seti_go T2.d4 (by have := T2.len.2.2.2.1; omega) ?_
    exact rest
  | false =>
    have em := hw.2.1 hc
    rw [em] at rest
    ac_rfl
    refine attr_go T2.ins (tb_marks _ _) ?_
    refine seti_go T2.d4 (by have := T2.len.2.2.2.1; omega) ?_
    exact rest
end Mn

/-! Ranks; level by level. -/
namespace Mn
open PySem
mutual
/-- the rank of the first tree -/
def F.rk1 : F → Int
  | .cons _ _ _ c _ => 1 + c.rk2
  | _ => 0
/-- the rank of the second tree -/
def F.rk2 : F → Int
  | .nil => 0
  | .hole r => r.rk1
  | .cons _ _ _ _ r => r.rk1
end
def F.sub : F → List Nd
  | .nil => []
  | .hole r => r.sub
  | .cons k i m c r => ⟨k, i, m, c⟩ :: (c.sub ++ r.sub)
theorem sub_nds : ∀ (f : F), ∀ y ∈ f.sub, ∃ x ∈ f.nds, y = x ∨ y ∈ x.c.sub
  | .nil, y, h => nomatch h
  | .hole r, y, h => sub_nds r y h
  | .cons k i m c r, y, h => by
    rcases List.mem_cons.mp h with rfl | h
    · exact ⟨_, List.mem_cons_self, .inl rfl⟩
    · rcases List.mem_append.mp h with h | h
      · exact ⟨_, List.mem_cons_self, .inr h⟩
      · obtain ⟨x, h1, h2⟩ := sub_nds r y h
        exact ⟨x, List.mem_cons_of_mem _ h1, h2⟩
theorem bfsN_mem : ∀ (n : Nat) (Q : List Nd), szN Q ≤ n → ∀ x ∈ Q, ∀ y, y = x ∨ y ∈ x.c.sub → y ∈ bfsN n Q
  | _, [], _, x, hx, _, _ => nomatch hx
  | 0, z :: Q, h, _, _, _, _ => by
    rw [szN_cons] at h
    unfold Nd.sz at h
    omega
  | n + 1, z :: Q, h, x, hx, y, hy => by
    rw [szN_cons] at h
    unfold Nd.sz at h
    have h2 : szN (Q ++ z.c.nds) ≤ n := by rw [szN_app, F.nds_sz]; omega
    show y ∈ z :: bfsN n (Q ++ z.c.nds)
    rcases List.mem_cons.mp hx with rfl | hx
    · rcases hy with rfl | hy
      · exact List.mem_cons_self
      · obtain ⟨x2, h3, h4⟩ := sub_nds _ y hy
        exact List.mem_cons_of_mem _ (bfsN_mem n _ h2 x2 (List.mem_append_right _ h3) y h4)
    · exact List.mem_cons_of_mem _ (bfsN_mem n _ h2 x (List.mem_append_left _ hx) y hy)
theorem bfsN_after : ∀ (n : Nat) (Q : List Nd), szN Q ≤ n → ∀ pre s post, bfsN n Q = pre ++ s :: post → ∀ c ∈ s.c.nds, c ∈ post
  | _, [], _, pre, s, post, e, c, hc => by
    unfold bfsN at e
    cases pre <;> cases e
  | 0, z :: Q, h, _, _, _, _, _, _ => by
    rw [szN_cons] at h
    unfold Nd.sz at h
    omega
  | n + 1, z :: Q, h, pre, s, post, e, c, hc => by
    rw [szN_cons] at h
    unfold Nd.sz at h
    have h2 : szN (Q ++ z.c.nds) ≤ n := by rw [szN_app, F.nds_sz]; omega
    have e : z :: bfsN n (Q ++ z.c.nds) = pre ++ s :: post := e
    cases pre with
    | nil =>
      obtain ⟨rfl, e3⟩ := List.cons.inj e
      rw [← e3]
      exact bfsN_mem n _ h2 c (List.mem_append_right _ hc) c (.inl rfl)
    | cons p pre => exact bfsN_after n _ h2 pre s post (List.cons.inj e).2 c hc
theorem bfsN_len : ∀ (n : Nat) (Q : List Nd), (bfsN n Q).length ≤ n
  | _, [] => by
    unfold bfsN
    exact Nat.zero_le _
  | 0, _ :: _ => Nat.le_refl _
  | n + 1, z :: Q => Nat.succ_le_succ (bfsN_len n _)
theorem bfsN_P {P : Nd → Prop} (hP : ∀ x, P x → ∀ y ∈ x.c.nds, P y) : ∀ (n : Nat) (Q : List Nd), (∀ x ∈ Q, P x) → ∀ x ∈ bfsN n Q, P x
  | _, [], _, x, hx => by
    unfold bfsN at hx
    cases hx
  | 0, _ :: _, _, x, hx => nomatch hx
  | n + 1, z :: Q, h, x, hx => by
    rcases List.mem_cons.mp (show x ∈ z :: bfsN n (Q ++ z.c.nds) from hx) with rfl | hx
    · exact h _ List.mem_cons_self
    · refine bfsN_P hP n _ (fun u hu => ?_) x hx
      rcases List.mem_append.mp hu with w | w
      · exact h u (List.mem_cons_of_mem _ w)
      · exact hP z (h z List.mem_cons_self) u w
theorem AtF.unique {M : TM} : ∀ {f g : F} {p q : Option Int}, AtF M p f → AtF M q g → f.tk = g.tk → f = g
  | .nil, g, _, _, _, _, e => by
    cases g with
    | nil => rfl
    | hole _ => cases e
    | cons _ _ _ _ _ => cases e
  | .hole r, g, _, _, h, h', e => by
    cases g with
    | nil => cases e
    | hole r' => rw [AtF.unique (f := r) (g := r') h h' (List.cons.inj e).2]
    | cons _ _ _ _ _ => cases (List.cons.inj e).1
  | .cons k i m c r, g, _, _, h, h', e => by
    cases g with
    | nil => cases e
    | hole _ => cases (List.cons.inj e).1
    | cons k' i' m' c' r' =>
      obtain ⟨e1, e2⟩ := List.cons.inj e
      cases e1
      obtain ⟨a1, a2, a3, a4, a5, a6⟩ := h
      obtain ⟨b1, b2, b3, b4, b5, b6⟩ := h'
      rw [a1] at b1
      rw [a2] at b2
      rw [a4] at b4
      cases b1
      cases b4
      rw [AtF.unique a5 b5 (Option.some.inj b2), AtF.unique a6 b6 e2]
theorem AtN.unique {M : TM} {x y : Nd} {p q : Option Int} (h : AtN M p x) (h' : AtN M q y) (e : x.i = y.i) : x = y := by
  obtain ⟨a1, a2, a3, a4, a5⟩ := h
  obtain ⟨b1, b2, b3, b4, b5⟩ := h'
  obtain ⟨k, i, m, c⟩ := x
  obtain ⟨k', i', m', c'⟩ := y
  simp only at e a1 a2 a4 a5 b1 b2 b4 b5
  subst e
  rw [a1] at b1
  rw [a2] at b2
  rw [a4] at b4
  cases b1
  cases b4
  rw [AtF.unique a5 b5 (Option.some.inj b2)]
/-- ranks of left -/
def RkF (M : TM) : F → Prop
  | .nil => True
  | .hole r => RkF M r
  | .cons _ i _ c r => M.rank i = some (1 + c.rk2) ∧ RkF M c ∧ RkF M r
theorem rkF_of {M : TM} : ∀ {f : F}, (∀ y ∈ f.sub, M.rank y.i = some (1 + y.c.rk2)) → RkF M f
  | .nil, _ => trivial
  | .hole r, h => rkF_of (f := r) h
  | .cons k i m c r, h => ⟨h ⟨k, i, m, c⟩ List.mem_cons_self, rkF_of fun y hy => h y (List.mem_cons_of_mem _ (List.mem_append_left _ hy)), rkF_of fun y hy => h y (List.mem_cons_of_mem _ (List.mem_append_right _ hy))⟩
/-- what is laid out beside what was there -/
structure LaidF (M : TM) (f : F) (X : TM) : Prop where
  kind : X.kind = M.kind
  roots : X.roots = M.roots
  at_ : AtF X none f
  rank : ∀ i ∈ f.all, X.rank i ≠ none
  left : M.kind = .left → RkF X f
  key : ∀ i, i ∉ f.all → X.key i = M.key i
  up : ∀ i, i ∉ f.all → X.up i = M.up i
  mark : ∀ i, i ∉ f.all → X.mark i = M.mark i
  rk : ∀ i, i ∉ f.all → X.rank i = M.rank i
  kids : ∀ i, i ∉ f.all → X.kids i = M.kids i
/-- the roots that wait -/
def rootE (f : F) : List En := f.nds.map fun x => ⟨x, none⟩
theorem rootE_all (f : F) : allE (rootE f) = f.all := by
  unfold allE rootE
  rw [List.map_map, F.nds_all]
  rfl
theorem rootE_x (f : F) : (rootE f).map En.x = f.nds := by
  unfold rootE
  rw [List.map_map]
  exact List.map_id _
theorem rootE_up (f : F) : ∀ e ∈ rootE f, e.at_ = none := fun e he => by
  obtain ⟨x, _, rfl⟩ := List.mem_map.mp he
  rfl
theorem full_d (kd : Kd) : ∀ {f : F}, f.full = true → f.dl kd = f.nds.map (Nd.d kd)
  | .nil, _ => rfl
  | .hole _, h => by cases h
  | .cons k i m c r, h => by
    show ndD kd k i m (c.dl kd) :: r.dl kd = _
    rw [full_d kd (f := r) h]
    rfl
theorem set_rank_no (n : Nat) {S : Store} {t N : Nat} {B : Nat → Prop} {M : TM} {i : Int} {Q : DK} {X : XK} (T : Tab S t B N M) (hk : M.kind ≠ .left) (q : Q .non S) : callN PP (n + 2) f_Table_set_rank [.ref t, .int i] S Q X := by
  obtain ⟨w, T⟩ := T
  refine enter rfl rfl ?_
  show wpCs _ k_Table_set_rank_0 _ [some (.ref t), some (.int i)] S
  bv_omega
  refine attr_go T.ins (tb_kind M w) ?_
  refine kd_eq (b := .left) ?_
  rw [decide_eq_false hk]
  exact q
/-- the tables' parts but the ranks -/
structure SameR (M M' : TM) : Prop where
  kind : M'.kind = M.kind
  roots : M'.roots = M.roots
  key : M'.key = M.key
  kids : M'.kids = M.kids
  up : M'.up = M.up
  mark : M'.mark = M.mark
theorem SameR.atF {M M' : TM} (s : SameR M M') : ∀ {f : F} {p : Option Int}, AtF M p f → AtF M' p f
  | .nil, _, _ => trivial
  | .hole r, _, h => s.atF (f := r) h
  | .cons k i m c r, p, ⟨h1, h2, h3, h4, h5, h6⟩ => ⟨by rw [s.key]; exact h1, by rw [s.kids]; exact h2, by rw [s.up]; exact h3, by rw [s.mark]; exact h4, s.atF h5, s.atF h6⟩
end Mn

/-! A shape's trees are laid out. -/
namespace Mn
open PySem
theorem Step.transX {E B B1 B2 : Nat → Prop} {S S1 S2 : Store} (a : Step B B1 S S1) (b : StepX E B1 B2 S1 S2) (hE : ∀ j, E j → S.length ≤ j) : Step B B2 S S2 :=
  ⟨fun j h => by
    rcases b.own j h with h | h
    · exact a.own j h
    · exact .inr (Nat.le_trans a.len h), Nat.le_trans a.len b.len, fun j hj hb => by
    have h1 : ¬ B1 j := fun z => by
      rcases a.own j z with h | h
      · exact hb h
      · omega
    rw [b.frm j (Nat.lt_of_lt_of_le hj a.len) h1 (fun z => by have := hE j z; omega), a.frm j hj hb]⟩
theorem en_pur (kd : Kd) (e : En) : (e.d kd).pur = true ∧ (e.d kd).py.canLay0 = true := by
  obtain ⟨h1, h2⟩ := ndD_pur kd e.x.k e.x.i e.x.m (dl_pur kd e.x.c)
  have h1 : (e.x.d kd).pur = true := h1
  have h2 : (e.x.d kd).py.canLay0 = true := h2
  unfold En.d
  cases e.up with
  | none =>
    constructor
    · show ((e.x.d kd).pur && (true && (true && true))) = true
      rw [h1]
      rfl
    · show ((e.x.d kd).py.canLay0 && (true && (true && true))) = true
      rw [h2]
      rfl
  | some u =>
    constructor
    · show ((e.x.d kd).pur && (true && (true && true))) = true
      rw [h1]
      rfl
    · show ((e.x.d kd).py.canLay0 && (true && (true && true))) = true
      rw [h2]
      rfl
theorem ens_pur (kd : Kd) : ∀ Q : List En, purs (Q.map (En.d kd)) = true ∧ PyData.canLayAll0 (pys (Q.map (En.d kd))) = true
  | [] => ⟨rfl, rfl⟩
  | e :: Q => by
    obtain ⟨h1, h2⟩ := ens_pur kd Q
    obtain ⟨h3, h4⟩ := en_pur kd e
    exact ⟨by show ((e.d kd).pur && purs (Q.map (En.d kd))) = true; rw [h1, h3]; rfl, by show ((e.d kd).py.canLay0 && PyData.canLayAll0 (pys (Q.map (En.d kd)))) = true; rw [h2, h4]; rfl⟩
def roots0 (Q : List En) : List Int := (Q.filter fun e => e.at_.isNone).map fun e => e.x.i
theorem roots0_cons (e : En) (Q : List En) : roots0 (e :: Q) = (match e.at_ with | none => [e.x.i] | some _ => []) ++ roots0 Q := by
  unfold roots0
  rw [List.filter_cons]
  cases h : e.at_ with
  | none => simp [h]
  | some _ => simp [h]
theorem roots0_app (Q R : List En) : roots0 (Q ++ R) = roots0 Q ++ roots0 R := by unfold roots0; rw [List.filter_append, List.map_append]
theorem roots0_kids (e : En) : roots0 e.kids = [] := by
  unfold roots0
  rw [List.map_eq_nil_iff, List.filter_eq_nil_iff]
  intro e' he'
  obtain ⟨q, h, _⟩ := ents_up _ _ _ e' he'
  rw [h]
  simp
theorem roots0_root (f : F) : roots0 (rootE f) = f.nds.map Nd.i := by
  unfold roots0
  rw [List.filter_eq_self.mpr fun e he => by rw [rootE_up f e he]; rfl]
  unfold rootE
  rw [List.map_map]
  rfl
theorem kids_x (e : En) : e.kids.map En.x = e.x.c.nds := ents_x _ _ _
theorem szE_N (Q : List En) : szN (Q.map En.x) = szE Q := by
  unfold szN szE
  rw [List.map_map]
  rfl
/-- two places -/
theorem two_of {c : F} (h : c.len = 2) : ∃ y1 y2, c.tk = [y1, y2] ∧ ((y2 = none ∧ c.rk2 = 0) ∨ ∃ x ∈ c.nds, y2 = some x.i ∧ c.rk2 = 1 + x.c.rk2) := by
  have go : ∀ r : F, r.len = 1 → ∃ y2, r.tk = [y2] ∧ ((y2 = none ∧ r.rk1 = 0) ∨ ∃ x ∈ r.nds, y2 = some x.i ∧ r.rk1 = 1 + x.c.rk2) := by
    intro r hr
    cases r with
    | nil => cases hr
    | hole g =>
      cases g with
      | nil => exact ⟨none, rfl, .inl ⟨rfl, by simp [F.rk1]⟩⟩
      | hole _ => cases hr
      | cons _ _ _ _ _ => cases hr
    | cons k i m c g =>
      cases g with
      | nil => exact ⟨some i, rfl, .inr ⟨⟨k, i, m, c⟩, List.mem_cons_self, rfl, by simp [F.rk1]⟩⟩
      | hole _ => cases hr
      | cons _ _ _ _ _ => cases hr
  cases c with
  | nil => cases h
  | hole r =>
    obtain ⟨y2, e1, e2⟩ := go r (Nat.succ.inj h)
    refine ⟨none, y2, by show none :: r.tk = _; rw [e1], ?_⟩
    simpa [F.rk2, F.nds] using e2
  | cons k i m c r =>
    obtain ⟨y2, e1, e2⟩ := go r (Nat.succ.inj h)
    refine ⟨some i, y2, by show some i :: r.tk = _; rw [e1], ?_⟩
    rcases e2 with z | ⟨x, h1, h2, h3⟩
    · exact .inl ⟨z.1, by simpa [F.rk2] using z.2⟩
    · exact .inr ⟨x, List.mem_cons_of_mem _ h1, h2, by simpa [F.rk2] using h3⟩
theorem opened_ok (m : Nat) {S : Store} {t N : Nat} {B : Nat → Prop} {M : TM} {f : F} {Q : DK} {X : XK} (T : Tab S t B N M) (r : Rt M.kind f) (nd : f.all.Nodup) (hsz : N + 2 * f.sz ≤ 10000)
    (q : ∀ S' B' M' ra, Tab S' t B' (N + 2 * f.sz) M' → Step B B' S S' → LaidF M f M' → S'[ra]? = some (.lst ((f.nds.map Nd.i).map D.int)) → S.length ≤ ra → ¬ B' ra → Q (.ref ra) S') : callN PP (m + 3) f_Table_opened [.ref t, shD M.kind f] S Q X := by
  obtain ⟨w, T⟩ := T
  have cap := T.cap
  refine enter rfl rfl ?_
  show wpCs _ k_Table_opened_0 _ [some (.ref t), some (shD M.kind f), none, none, none, none, none, none, none, none, none, none] S
  bv_omega
  have T1 := T.keep (S' := S ++ [.lst []]) fun j o _ h => get_push h _
  have hf1 := last_get S (.lst [])
  have st1 : Step B B S (S ++ [.lst []]) := Step.push _
  have hfb : ¬ B S.length := fun z => Nat.lt_irrefl _ (T.bnd _ z)
  have hfr : S.length ≤ S.length := Nat.le_refl _
  generalize hS1 : S ++ [.lst []] = S1 at T1 hf1 st1 ⊢
  generalize hfe : S.length = fr at hf1 hfb hfr ⊢
  bv_omega
  refine attr_go T1.ins (tb_kind M w) ?_
  refine trees_of_ok (m + 1) r fun S2 x2 h2 => ?_
  have T2 := T1.keep (S' := S2) fun j o _ h => x2.get h
  have hf2 := x2.get hf1
  have st2 : Step B B S S2 := by obtain ⟨U, rfl⟩ := x2; exact st1.pushN U
  ac_rfl
  refine it_lst h2 ?_
  refine lcB_map (S1 := S2) (fun _ => true) (fun d => .tup [d, .non, .int (-1)]) (fun acc => lst_of (get_push h2 _)) (by rw [F.dl_len, List.length_nil]; rcases F.len_le M.kind f r.wf with z | z; (· omega); (· have := r.one (by revert z; cases M.kind <;> intro z <;> first | rfl | cases z); omega)) ?_ ?_
  · intro d hd
    refine ⟨_, rfl, fun acc => ⟨fun K hK => hK, fun _ K hK => ?_⟩⟩
    ac_rfl
    exact hK
  rw [List.nil_append, filter_all, full_d M.kind r.full, show (f.nds.map (Nd.d M.kind)).map (fun d => D.tup [d, .non, .int (-1)]) = (rootE f).map (En.d M.kind) by unfold rootE; rw [List.map_map, List.map_map]; rfl]
  have T3 := T2.keep (S' := S2 ++ [.lst ((rootE f).map (En.d M.kind))]) fun j o _ h => get_push h _
  have hf3 := get_push hf2 [.lst ((rootE f).map (En.d M.kind))]
  have hw3 := last_get S2 (.lst ((rootE f).map (En.d M.kind)))
  have st3 := st2.pushN [.lst ((rootE f).map (En.d M.kind))]
  have n1 : fr < S2.length := get_lt hf2
  have hwb : ¬ B S2.length := fun z => by have := T2.bnd _ z; omega
  have hwr : S.length ≤ S2.length := st2.len
  generalize S2 ++ [.lst ((rootE f).map (En.d M.kind))] = S3 at T3 hf3 hw3 st3 ⊢
  generalize S2.length = wr_ at hw3 n1 hwb hwr ⊢
  ac_rfl
  bv_omega
  have T4 := T3.keep (S' := S3 ++ [.lst []]) fun j o _ h => get_push h _
  have hf4 := get_push hf3 [.lst []]
  have hw4 := get_push hw3 [.lst []]
  have ho4 := last_get S3 (.lst [])
  have st4 := st3.pushN [.lst []]
  have n3 : wr_ < S3.length := get_lt hw3
  have hob : ¬ B S3.length := fun z => by have := T3.bnd _ z; omega
  have hor : S.length ≤ S3.length := st3.len
  generalize S3 ++ [.lst []] = S4 at T4 hf4 hw4 ho4 st4 ⊢
  generalize S3.length = or_ at ho4 n3 hob hor ⊢
  generalize hEe : (fun j => j = fr ∨ j = wr_ ∨ j = or_) = E
  have hE : ∀ j, E j → S.length ≤ j := fun j h => by
    rw [← hEe] at h
    rcases h with h | h | h <;> omega
  bv_omega
  have W0 : Wait M.kind M (rootE f) := by
    refine ⟨fun e he => ?_, by rw [rootE_all]; exact nd, fun e he u p h => by rw [rootE_up f e he] at h; cases h⟩
    obtain ⟨x, hx, rfl⟩ := List.mem_map.mp he
    exact F.nds_wf r.wf x hx
  have sz0 : szE (rootE f) = f.sz := by rw [← szE_N, rootE_x, F.nds_sz]
  refine whB_at (fun k ρ S' => ∃ Q1 B1 N1 M1 fnd ord y4 y6 y7 y8 y9 y10 y11, ρ = [some (.ref t), some (shD M.kind f), some (.ref fr), some (.ref wr_), y4, some (.ref or_), y6, y7, y8, y9, y10, y11] ∧ Tab S' t B1 N1 M1 ∧ Step B B1 S S' ∧ ¬ B1 fr ∧ ¬ B1 wr_ ∧ ¬ B1 or_ ∧
      S'[fr]? = some (.lst (fnd.map D.int)) ∧ S'[wr_]? = some (.lst (Q1.map (En.d M.kind))) ∧ S'[or_]? = some (.lst (ord.map D.int)) ∧ M1.kind = M.kind ∧ Wait M.kind M1 Q1 ∧ (∀ Z, Laid M1 Q1 Z → Laid M (rootE f) Z) ∧ fnd ++ roots0 Q1 = f.nds.map Nd.i ∧
      ord ++ (bfsN k (Q1.map En.x)).map Nd.i = (bfsN f.sz f.nds).map Nd.i ∧ szE Q1 = k ∧ k ≤ f.sz ∧ N1 + 2 * k = N + 2 * f.sz) ?_ f.sz
    ⟨rootE f, B, N, M, [], [], _, _, _, _, _, _, _, rfl, ⟨w, T4⟩, st4, hfb, hwb, hob, hf4, hw4, ho4, rfl, W0, fun Z h => h, by rw [roots0_root]; rfl, by rw [rootE_x]; rfl, sz0, Nat.le_refl _, rfl⟩
  rintro k ρ S5 ⟨Q1, B1, N1, M1, fnd, ord, y4, y6, y7, y8, y9, y10, y11, rfl, T5, st5, fb5, wb5, ob5, hf5, hw5, ho5, kd5, W5, L5, R5, O5, sz5, k5, N5⟩ NN hNN
  have hfl : fnd.length ≤ 10000 := by
    have := congrArg List.length R5
    rw [List.length_append, List.length_map] at this
    have h2 : f.nds.length ≤ f.sz := by
      have := szE_len (rootE f)
      rw [sz0] at this
      unfold rootE at this
      rwa [List.length_map] at this
    omega
  have hol : ord.length ≤ 10000 := by
    have := congrArg List.length O5
    rw [List.length_append, List.length_map, List.length_map] at this
    have := bfsN_len f.sz f.nds
    omega
  have hql := szE_len Q1
  obtain ⟨p1, p2⟩ := ens_pur M.kind Q1
  ac_rfl
  refine lnil_ne (l := Q1.map (En.d M.kind)) (lst_of (get_push hw5 _)) (last_lst2 S5 []) rfl (purs_snap _ p1) p2 ?_
  have T6 := Tab.push T5 [.lst []]
  have hf6 := get_push hf5 [.lst []]
  have hw6 := get_push hw5 [.lst []]
  have ho6 := get_push ho5 [.lst []]
  have st6 := st5.pushN [.lst []]
  generalize S5 ++ [.lst []] = S6 at T6 hf6 hw6 ho6 st6 ⊢
  cases Q1 with
  | cons e Q1 =>
    show wpCs _ k_Table_opened_3a0 _ _ _
    bv_omega
    refine ⟨recv_l hw6, popAt0_go hw6 ?_⟩
    have hEf : E wr_ := by rw [← hEe]; exact .inr (.inl rfl)
    have T7 := T6.setO (.lst (Q1.map (En.d M.kind))) wb5
    have hw7 : (S6.set wr_ (.lst (Q1.map (En.d M.kind))))[wr_]? = _ := get_set hw6
    have hf7 : (S6.set wr_ (.lst (Q1.map (En.d M.kind))))[fr]? = _ := get_set_ne hf6 (by omega)
    have ho7 : (S6.set wr_ (.lst (Q1.map (En.d M.kind))))[or_]? = _ := get_set_ne ho6 (by omega)
    have st7 := st6.setN (.lst (Q1.map (En.d M.kind))) hwr
    generalize S6.set wr_ (.lst (Q1.map (En.d M.kind))) = S7 at T7 hw7 hf7 ho7 st7 ⊢
    have hsk := szE_kids e
    rw [szE_cons] at sz5
    rw [List.length_cons, szE_cons] at hql
    have wfe := W5.wf e List.mem_cons_self
    rw [← kd5] at wfe
    have upe : ∀ u p, e.at_ = some (u, p) → u ≠ e.x.i ∧ ∃ l, M1.kids u = some l ∧ p < l.length := fun u p h => by
      obtain ⟨h1, h2⟩ := W5.up e List.mem_cons_self u p h
      refine ⟨fun z => h1 ?_, h2⟩
      rw [z, allE_cons]
      simp [Nd.all]
    have hcs : e.x.c.sz ≤ 10000 := by
      have : e.x.c.sz + 1 = e.x.sz := rfl
      omega
    show wpCs _ k_Table_opened_3a1 _ [some (.ref t), some (shD M.kind f), some (.ref fr), some (.ref wr_), some (e.x.d M.kind), some (.ref or_), some (oI e.up), some (.int e.pl), y8, y9, y10, y11] S7
    rw [← kd5]
    refine plant_ok (m + 1) T7 (by omega) wfe upe hf7 fb5 hfl hw7 wb5 ho7 ob5 (by rw [List.length_map]; exact hol) (by omega) (by omega) (by omega) hcs (by rw [List.length_map]; omega) fun S8 B8 z9 z10 z11 T8 s8 fb8 wb8 ob8 hf8 hw8 ho8 => ?_
    rw [hEe] at s8
    rw [kd5] at hw8 ⊢
    refine hNN (k - 1) _ _ (by omega) ⟨Q1 ++ e.kids, B8, N1 + 2, M1.plant e, _, ord ++ [e.x.i], _, _, _, _, _, _, _, rfl, T8, st7.transX s8 hE, fb8, wb8, ob8, hf8, ?_, ?_, kd5, W5.step, fun Z h => L5 Z (W5.laid h), ?_, ?_, ?_, ?_, ?_⟩
    · rw [hw8, List.map_append]
    · rw [ho8, List.map_append]
      rfl
    · rw [roots0_app, roots0_kids, List.append_nil, List.append_assoc, ← R5, roots0_cons]
      all_goals rfl
    · rw [← O5, List.append_assoc]
      obtain ⟨k', rfl⟩ : ∃ k', k = k' + 1 := ⟨k - 1, by omega⟩
      show _ = ord ++ (e.x :: bfsN k' (Q1.map En.x ++ e.x.c.nds)).map Nd.i
      rw [List.map_append (f := En.x), kids_x]
      rfl
    · rw [szE_app]
      omega
    · omega
    · omega
  | nil =>
    have ek : k = 0 := sz5.symm
    subst ek
    have eO : ord = (bfsN f.sz f.nds).map Nd.i := by rw [← O5]; unfold bfsN; simp
    have eR : fnd = f.nds.map Nd.i := by rw [← R5]; simp [roots0]
    have lay := L5 M1 (Laid.nil M1)
    have eN : N1 = N + 2 * f.sz := by omega
    subst eO eR eN
    clear hNN W5 L5 R5 O5 p1 p2
    show wpCs _ k_Table_opened_4 _ _ _
    bv_omega
    refine revl_go ho6 ?_
    refine it_lst (last_get _ _) ?_
    generalize hL : bfsN f.sz f.nds = L at *
    have er : ((L.map Nd.i).map D.int).reverse = L.reverse.map fun x => D.int x.i := by rw [List.map_map, ← List.map_reverse]; rfl
    rw [er]
    have T7 := Tab.push T6 [.lst (L.reverse.map fun x => D.int x.i)]
    have hv7 := last_get S6 (.lst (L.reverse.map fun x => D.int x.i))
    have hf7 := get_push hf6 [.lst (L.reverse.map fun x => D.int x.i)]
    have st7 := st6.pushN [.lst (L.reverse.map fun x => D.int x.i)]
    have hvb : ¬ B1 S6.length := fun z => by
      obtain ⟨w6, T6⟩ := T6
      exact Nat.lt_irrefl _ (T6.bnd _ z)
    generalize S6 ++ [.lst (L.reverse.map fun x => D.int x.i)] = S7 at T7 hv7 hf7 st7 ⊢
    generalize S6.length = rv at hv7 hvb ⊢
    -- what is known of all trees
    have facts : ∀ x ∈ L, (∃ p, AtN M1 p x) ∧ x.wf M.kind ∧ ∀ j ∈ x.all, j ∈ f.all := by
      rw [← hL]
      refine bfsN_P (P := fun x => (∃ p, AtN M1 p x) ∧ x.wf M.kind ∧ ∀ j ∈ x.all, j ∈ f.all) (fun x hx y hy => ?_) _ _ (fun x hx => ?_)
      · obtain ⟨⟨p, h1⟩, h2, h3⟩ := hx
        refine ⟨⟨_, atF_iff.mp h1.2.2.2.2 y hy⟩, F.nds_wf h2.2.2 y hy, fun j hj => h3 j (List.mem_cons_of_mem _ ?_)⟩
        rw [F.nds_all]
        exact List.mem_flatten.mpr ⟨_, List.mem_map.mpr ⟨y, hy, rfl⟩, hj⟩
      · refine ⟨⟨_, lay.at_ ⟨x, none⟩ (List.mem_map.mpr ⟨x, hx, rfl⟩)⟩, F.nds_wf r.wf x hx, fun j hj => ?_⟩
        rw [F.nds_all]
        exact List.mem_flatten.mpr ⟨_, List.mem_map.mpr ⟨x, hx, rfl⟩, hj⟩
    have atf : AtF M1 none f := atF_iff.mpr fun x hx => lay.at_ ⟨x, none⟩ (List.mem_map.mpr ⟨x, hx, rfl⟩)
    have lk : ∀ i, i ∉ f.all → M1.kids i = M.kids i := fun i hi => by
      have := lay.kids i (by rw [rootE_all]; exact hi)
      rw [this]
      have e : ∀ l, wrs i (rootE f) l = l := wrs_none fun e he z => by
        unfold En.up at z
        rw [rootE_up f e he] at z
        cases z
      cases M.kids i with
      | none => rfl
      | some l => exact congrArg some (e l)
    have lay1 := lay.rank
    rw [rootE_all] at lay1
    refine forB_at _ (fun j ρ S' => ∃ M2 y8, ρ = [some (.ref t), some (shD M.kind f), some (.ref fr), some (.ref wr_), y4, some (.ref or_), y6, y7, y8, y9, y10, y11] ∧ Tab S' t B1 (N + 2 * f.sz) M2 ∧ Step B1 B1 S7 S' ∧ SameR M1 M2 ∧ (∀ i, i ∉ f.all → M2.rank i = M1.rank i) ∧ (∀ i, i ∈ f.all → M2.rank i ≠ none) ∧ (M.kind = .left → ∀ x ∈ L.reverse.take j, M2.rank x.i = some (1 + x.c.rk2))) ?_ ?_ ?_
      ⟨M1, _, rfl, T7, Step.refl _ _, ⟨rfl, rfl, rfl, rfl, rfl, rfl⟩, fun _ _ => rfl, fun i hi => by rw [lay1 i hi]; simp, fun _ x hx => by cases hx⟩
    · rintro j ρ S' ⟨M2, y8, rfl, T8, st8, sm, rk1, rk2, rk3⟩
      exact lst_of (st8.get hv7 hvb).1
    · rintro ρ S' ⟨M2, y8, rfl, T8, st8, sm, rk1, rk2, rk3⟩
      rw [List.length_map, List.take_length] at rk3
      ac_rfl
      bv_omega
      refine q S' B1 M2 fr T8 (st7.trans st8) ⟨sm.kind.trans lay.kind, sm.roots.trans lay.roots, sm.atF atf, rk2, fun hl => rkF_of fun y hy => rk3 hl y ?_, fun i hi => ?_, fun i hi => ?_, fun i hi => ?_, fun i hi => ?_, fun i hi => ?_⟩ (st8.get hf7 fb5).1 (by omega) fb5
      · rw [List.mem_reverse, ← hL]
        obtain ⟨x, h1, h2⟩ := sub_nds f y hy
        exact bfsN_mem _ _ (by rw [F.nds_sz]; exact Nat.le_refl _) x h1 y h2
      · rw [sm.key]
        exact lay.key i (by rw [rootE_all]; exact hi)
      · rw [sm.up]
        exact lay.up i (by rw [rootE_all]; exact hi)
      · rw [sm.mark]
        exact lay.mark i (by rw [rootE_all]; exact hi)
      · rw [rk1 i hi]
        exact lay.rk i (by rw [rootE_all]; exact hi)
      · rw [sm.kids]
        exact lk i hi
    · rintro j d hd ρ S' ⟨M2, y8, rfl, T8, st8, sm, rk1, rk2, rk3⟩ N3 hN3
      rw [List.getElem?_map] at hd
      cases ej : L.reverse[j]? with
      | none => rw [ej] at hd; cases hd
      | some x =>
        rw [ej] at hd
        cases hd
        refine ⟨_, rfl, ?_⟩
        have hxL : x ∈ L := List.mem_reverse.mp (List.mem_of_getElem? ej)
        obtain ⟨⟨p, hx1⟩, hx2, hx3⟩ := facts x hxL
        have hxi : x.i ∈ f.all := hx3 _ (by simp [Nd.all])
        obtain ⟨w8, W8⟩ := id T8
        bv_omega
        refine meth_go W8.ins rfl ?_
        by_cases hl : M.kind = .left
        · have kl : M2.kind = .left := by rw [sm.kind, kd5, hl]
          obtain ⟨y1, y2, e1, e2⟩ := two_of (hx2.1 (by rw [hl]; rfl))
          have hk2 : M2.kids x.i = some [y1, y2] := by rw [sm.kids, hx1.2.1, e1]
          have hrk : rkO M2 y2 = some x.c.rk2 := by
            rcases e2 with ⟨rfl, e3⟩ | ⟨z, hz, rfl, e3⟩
            · rw [e3]
              rfl
            · obtain ⟨pre, epre⟩ := rev_split ej
              have hz2 := bfsN_after f.sz f.nds (by rw [F.nds_sz]; exact Nat.le_refl _) pre x _ (by rw [hL]; exact epre) z hz
              rw [e3]
              exact rk3 hl z (List.mem_reverse.mp hz2)
          refine set_rank_ok m T8 (rk2 _ hxi) hk2 hrk fun S9 T9 s9 => ?_
          rw [if_pos kl] at T9
          refine hN3 _ _ ⟨_, _, rfl, T9, st8.trans s9, ⟨sm.kind, sm.roots, sm.key, sm.kids, sm.up, sm.mark⟩, fun i hi => ?_, fun i hi => ?_, fun _ y hy => ?_⟩
          · show fset M2.rank x.i _ i = _
            rw [fset_ne _ _ (fun z => hi (by rw [z]; exact hxi))]
            exact rk1 i hi
          · show fset M2.rank x.i _ i ≠ none
            by_cases z : i = x.i
            · rw [z, fset_same]
              simp
            · rw [fset_ne _ _ z]
              exact rk2 i hi
          · show fset M2.rank x.i _ y.i = _
            rw [List.take_add_one, ej] at hy
            by_cases z : y.i = x.i
            · have hyL : y ∈ L := by
                rcases List.mem_append.mp hy with w | w
                · exact List.mem_reverse.mp (List.mem_of_mem_take w)
                · have : y = x := by simpa using w
                  rw [this]
                  exact hxL
              obtain ⟨⟨p', hy1⟩, _, _⟩ := facts y hyL
              have := hy1.unique hx1 z
              subst this
              exact fset_same _ _ _
            · rw [fset_ne _ _ z]
              rcases List.mem_append.mp hy with w | w
              · exact rk3 hl y w
              · have : y = x := by simpa using w
                rw [this] at z
                exact absurd rfl z
        · refine set_rank_no m T8 (by rw [sm.kind, kd5]; exact hl) ?_
          exact hN3 _ _ ⟨_, _, rfl, T8, st8, sm, rk1, rk2, fun z => absurd z hl⟩
end Mn

/-! The table of a shape. -/
namespace Mn
open PySem
/-- the table of a shape -/
structure TbF (M : TM) (kd : Kd) (f : F) : Prop where
  kind : M.kind = kd
  roots : M.roots = f.nds.map Nd.i
  at_ : AtF M none f
  rank : ∀ i ∈ f.all, M.rank i ≠ none
  left : kd = .left → RkF M f
  out : ∀ i, i ∉ f.all → M.key i = none ∧ M.kids i = none ∧ M.up i = none ∧ M.mark i = none ∧ M.rank i = none
theorem atF_roots {M : TM} {r : List Int} : ∀ {f : F} {p : Option Int}, AtF M p f → AtF { M with roots := r } p f
  | .nil, _, _ => trivial
  | .hole g, _, h => atF_roots (f := g) h
  | .cons k i m c g, p, ⟨h1, h2, h3, h4, h5, h6⟩ => ⟨h1, h2, h3, h4, atF_roots h5, atF_roots h6⟩
theorem rkF_roots {M : TM} {r : List Int} : ∀ {f : F}, RkF M f → RkF { M with roots := r } f
  | .nil, _ => trivial
  | .hole g, h => rkF_roots (f := g) h
  | .cons k i m c g, ⟨h1, h2, h3⟩ => ⟨h1, rkF_roots h2, rkF_roots h3⟩
abbrev noB : Nat → Prop := fun _ => False
theorem nds_len (f : F) : f.nds.length ≤ f.sz := by
  have := szE_len (rootE f)
  rw [← szE_N, rootE_x, F.nds_sz] at this
  unfold rootE at this
  rwa [List.length_map] at this
theorem table_of_ok (m : Nat) {kd : Kd} {f : F} {S : Store} {Q : DK} {X : XK} (r : Rt kd f) (nd : f.all.Nodup) (hsz : 2 * f.sz + 1 ≤ 10000)
    (q : ∀ S' B' M', Tab S' S.length B' (2 * f.sz + 1) M' → Step noB B' S S' → TbF M' kd f → Q (.ref S.length) S') : callN PP (m + 4) f_table_of [.str kd.s, shD kd f] S Q X := by
  refine enter rfl rfl ?_
  show wpCs _ k_table_of_0 _ [some (.str kd.s), some (shD kd f), none] S
  bv_omega
  refine init_ok (m + 2) kd ⟨rfl, ?_⟩
  have T0 := tab0 S kd
  have s0 : Step noB (fun j => S.length ≤ j ∧ j < S.length + 7) S (S ++ [.ins 0 (tbF (TM0 kd) (TW0 S.length)), .dct [], .dct [], .dct [], .dct [], .dct [], .lst []]) :=
    ⟨fun j h => .inr h.1, by simp, fun j hj _ => by rw [List.getElem?_append_left hj]⟩
  generalize S ++ [.ins 0 (tbF (TM0 kd) (TW0 S.length)), .dct [], .dct [], .dct [], .dct [], .dct [], .lst []] = S0 at T0 s0 ⊢
  generalize hB0 : (fun j => S.length ≤ j ∧ j < S.length + 7) = B0 at T0 s0
  ac_rfl
  bv_omega
  refine meth_go T0.ins rfl ?_
  refine opened_ok m (M := TM0 kd) ⟨_, T0⟩ r nd (by omega) fun S1 B1 M1 ra T1 s1 lay hra hle nb => ?_
  obtain ⟨w1, T1⟩ := T1
  ac_rfl
  have nl := nds_len f
  have hu : ∀ j, dGet w1.k2 (.inl j) ≠ some (.ref ra) := fun j e => by
    rcases T1.g2 j with z | ⟨l, b, q1, q2, q3, q4, q5⟩
    · rw [z.2] at e
      cases e
    · rw [q2] at e
      cases e
      exact nb q5
  have hrl := get_lt hra
  have T2 := (T1.more (B' := fun j => B1 j ∨ j = ra) (fun j h => .inl h) (fun j h => by rcases h with h | rfl; (· exact T1.bnd j h); (· exact hrl))).set6 (N' := 2 * f.sz + 1) (b := ra) (f.nds.map Nd.i) hra (.inr rfl) hu (by omega) (by rw [List.length_map]; omega) hsz
  refine setA_go T1.ins nle ?_
  have s2 : Step noB (fun j => B1 j ∨ j = ra) S (S1.set S.length (.ins 0 (putF "roots" (.ref ra) (tbF M1 w1)))) := by
    refine ⟨fun j h => ?_, ?_, fun j hj _ => ?_⟩
    · rcases h with h | rfl
      · rcases (s0.trans s1).own j h with z | z
        · exact z.elim
        · exact .inr z
      · exact .inr (Nat.le_trans s0.len hle)
    · rw [List.length_set]
      exact (s0.trans s1).len
    · rw [List.getElem?_set_ne (by omega)]
      exact (s0.trans s1).frm j hj (fun z => z)
  ac_rfl
  bv_omega
  refine q _ _ _ ⟨_, T2⟩ s2 ⟨lay.kind, rfl, ?_, lay.rank, fun h => rkF_roots (lay.left h), fun i hi => ⟨lay.key i hi, lay.kids i hi, lay.up i hi, lay.mark i hi, lay.rk i hi⟩⟩
  exact atF_roots lay.at_
theorem Step.ext0 {B' : Nat → Prop} {S S' : Store} (s : Step noB B' S S') : Ext S S' := by
  refine ⟨S'.drop S.length, ?_⟩
  conv => lhs; rw [← List.take_append_drop S.length S']
  congr 1
  refine List.ext_getElem? fun j => ?_
  by_cases h : j < S.length
  · rw [List.getElem?_take_of_lt h, s.frm j h (fun z => z)]
  · rw [List.getElem?_eq_none (by rw [List.length_take]; have := s.len; omega), List.getElem?_eq_none (by omega)]
end Mn

/-! No ticket of one shape is in another. -/
namespace Mn
open PySem
theorem keys_ints {S : Store} {t N : Nat} {B : Nat → Prop} {M : TM} {w : TW} (T : TabW S t B N M w) : ∃ l : List Int, (w.k1.map fun kv => keyD kv.1) = l.map D.int ∧ (∀ i, i ∈ l ↔ M.key i ≠ none) ∧ l.Nodup ∧ l.length ≤ N := by
  obtain ⟨⟨l, e, hn⟩, _⟩ := T.ki
  refine ⟨l, ?_, fun i => ?_, hn, ?_⟩
  · rw [show (fun kv : Key × D => keyD kv.1) = keyD ∘ (·.1) from rfl, ← List.map_map, e, List.map_map]
    rfl
  · have h := T.g1 i
    have hm : i ∈ l ↔ (Sum.inl i : Key) ∈ w.k1.map (·.1) := by
      rw [e]
      constructor
      · exact fun h => List.mem_map.mpr ⟨i, h, rfl⟩
      · intro h
        obtain ⟨j, hj, ej⟩ := List.mem_map.mp h
        cases ej
        exact hj
    rw [hm]
    constructor
    · intro hin z
      rw [z] at h
      obtain ⟨p, hp, ep⟩ := List.mem_map.mp hin
      unfold dGet at h
      cases hf : w.k1.find? (fun kv => decide (kv.1 = .inl i)) with
      | none =>
        have := List.find?_eq_none.mp hf p hp
        simp [ep] at this
      | some _ => rw [hf] at h; cases h
    · intro hne
      cases hk : M.key i with
      | none => exact absurd hk hne
      | some k =>
        rw [hk] at h
        unfold dGet at h
        cases hf : w.k1.find? (fun kv => decide (kv.1 = .inl i)) with
        | none => rw [hf] at h; cases h
        | some p => exact List.mem_map.mpr ⟨p, List.mem_of_find?_eq_some hf, by simpa using List.find?_some hf⟩
  · have := congrArg List.length e
    rw [List.length_map, List.length_map] at this
    rw [← this]
    exact T.len.1
/-- no ticket of the one is in the other: what the check of both tells -/
theorem check_two (m : Nat) {S : Store} {t2 kn N : Nat} {B2 : Nat → Prop} {M2 : TM} {kvs : List (Key × D)} {ρ : Env} {Q : DK} {X : XK} (W2 : Tab S t2 B2 N M2) (hN : N ≤ 10000) (e5 : ρ[5]? = some (some (.ref t2))) (e4 : ρ[4]? = some (some (.ref kn))) (hρ : ρ.length = 8) (hk : S[kn]? = some (.dct kvs)) (hkb : ¬ B2 kn) (dis : ∀ i, M2.key i ≠ none → dGet kvs (.inl i) = none)
    (q : ∀ S' n, B2 n → S' = (S.set n (.fdct kvs)) ∨ True → (∀ j o, j ≠ n → S[j]? = some o → S'[j]? = some o) → S.length ≤ S'.length → Q (.bl false) S') :
    wpE (callN PP m) (.blt .any1 (.cons (.lc [6] (.nm 6) (.keys (.attr 0 (.v 5) "key_at")) (.cst (.bl true)) (.cmp .In (.v 6) (.v 4))) .nil)) ρ S Q X := by
  obtain ⟨w, W⟩ := W2
  obtain ⟨l, e1, e2, e3, e6⟩ := keys_ints W
  match ρ, hρ, e5, e4 with
  | [r0, r1, r2, r3, r4, r5, r6, r7], _, e5, e4 =>
    cases e5
    cases e4
    ac_rfl
    refine attr_go W.ins (tb_key _ _) ?_
    refine keys_go W.d1 ?_
    rw [e1]
    have hk2 : (S.set w.a1 (.fdct w.k1))[kn]? = some (.dct kvs) := get_set_ne hk (fun z => hkb (z ▸ W.own.2.1))
    have hd2 : (S.set w.a1 (.fdct w.k1))[w.a1]? = some (.fdct w.k1) := get_set W.d1
    have fr : ∀ j o, j ≠ w.a1 → S[j]? = some o → (S.set w.a1 (.fdct w.k1))[j]? = some o := fun j o hj h => get_set_ne h (Ne.symm hj)
    have len : S.length ≤ (S.set w.a1 (.fdct w.k1)).length := by rw [List.length_set]; exact Nat.le_refl _
    generalize S.set w.a1 (.fdct w.k1) = S1 at hk2 hd2 fr len ⊢
    refine lcB_map (S1 := S1) (fun _ => true) (fun _ => .bl false) (fun acc => get_push hd2 _) (by simp only [List.length_nil, List.length_map]; omega) ?_ ?_
    · intro d hd
      obtain ⟨i, hi, rfl⟩ := List.mem_map.mp hd
      refine ⟨_, rfl, fun acc => ⟨fun K hK => hK, fun _ K hK => ?_⟩⟩
      ac_rfl
      refine ini_go (get_push hk2 _) ?_
      rw [dis i ((e2 i).mp hi)]
      exact hK
    · rw [List.nil_append, filter_all]
      refine any_go (last_get _ _) (b := l.map fun _ => false) ?_ ?_
      · rw [List.map_map, show ((fun _ => D.bl false) ∘ D.int : Int → D) = D.bl ∘ (fun _ => false) from rfl, ← List.map_map]
        exact bls_map _
      · have : (l.map fun _ => false).any id = false := by
          rw [List.any_eq_false]
          intro b hb
          obtain ⟨_, _, rfl⟩ := List.mem_map.mp hb
          simp
        rw [this]
        exact q _ w.a1 W.own.2.1 (.inr trivial) (fun j o hj h => get_push (fr j o hj h) _) (by rw [List.length_append]; omega)
theorem whole_ok (m : Nat) {c lo hi : Int} {S : Store} {Q : DK} {X : XK} (q : Q (.bl (decide (lo ≤ c) && decide (c ≤ hi))) S) : callN PP (m + 1) f_is_whole [.int c, .int lo, .int hi] S Q X := by
  refine enter rfl rfl ?_
  show wpCs _ k_is_whole_0 _ [some (.int c), some (.int lo), some (.int hi)] S
  bv_omega
  cases h1 : decide (lo ≤ c) with
  | false =>
    rw [h1] at q
    exact q
  | true =>
    rw [h1] at q
    exact q
theorem check_ok (m : Nat) {t N : Nat} {c k : Int} {Q : DK} {X : XK} {S : Store} {B : Nat → Prop} {M : TM} (T : Tab S t B N M) (hk : M.key c = some k) (h0 : 0 ≤ c) (h1 : c ≤ 1000000) (q : Q .non S) : callN PP (m + 2) f_check_ticket [.ref t, .int c] S Q X := by
  obtain ⟨w, T⟩ := T
  refine enter rfl rfl ?_
  show wpCs _ k_check_ticket_0 _ [some (.ref t), some (.int c)] S
  bv_omega
  refine whole_ok m ?_
  rw [decide_eq_true h0, decide_eq_true h1]
  ac_rfl
  refine attr_go T.ins (tb_key _ _) ?_
  show cmpB .In (.int c) (.ref w.a1) S fun b => _
  refine ini_go T.d1 ?_
  rw [T.g1, hk]
  exact q
end Mn

/-! What the laws draw: keys, deeds, items of a shape. -/
namespace Mn
open PySem
abbrev It2 := Int × Int
def F.its : F → List It2
  | .nil => []
  | .hole r => r.its
  | .cons k i _ c r => (k, i) :: (c.its ++ r.its)
def Nd.its (x : Nd) : List It2 := (x.k, x.i) :: x.c.its
theorem its_all : ∀ f : F, f.its.map Prod.snd = f.all
  | .nil => rfl
  | .hole r => its_all r
  | .cons k i m c r => by
    show i :: (c.its ++ r.its).map Prod.snd = _
    rw [List.map_append, its_all c, its_all r]
    rfl
theorem its_len (f : F) : f.its.length = f.sz := by rw [← F.all_len, ← its_all, List.length_map]
def itsN (l : List Nd) : List It2 := (l.map Nd.its).flatten
theorem its_nds : ∀ f : F, f.its = itsN f.nds
  | .nil => rfl
  | .hole r => its_nds r
  | .cons k i m c r => by
    show (k, i) :: (c.its ++ r.its) = ((k, i) :: c.its) ++ itsN r.nds
    rw [its_nds r]
    rfl
theorem itsN_app (l m : List Nd) : itsN (l ++ m) = itsN l ++ itsN m := by unfold itsN; rw [List.map_append, List.flatten_append]
theorem itsN_len : ∀ l : List Nd, (itsN l).length = szN l
  | [] => rfl
  | x :: l => by
    show (x.its ++ itsN l).length = _
    rw [List.length_append, itsN_len l, szN_cons]
    show x.c.its.length + 1 + _ = _
    rw [its_len]
    rfl
theorem Ext.frs2 {s : Nat} {S S1 S2 : Store} (a : Fr s S S1) (b : Ext S1 S2) : Fr s S S2 := a.trans (b.fr s)
theorem Src.ext2 {S S' : Store} {s : Nat} {k : Int} (h : Src S s k) (x : Ext S S') : Src S' s k := by
  obtain ⟨T, rfl⟩ := x
  exact h.push T
theorem source_ok2 (n : Nat) (c : Int) (S : Store) (Q : DK) (X : XK) (q : Q (.ref S.length) (S ++ [.lst [.int c, .int c, .int 0, .int 0]])) : callN PP (n + 1) f_law_source [.int c] S Q X := by
  refine enter rfl rfl ?_
  show wpCs _ k_law_source_0 _ [some (.int c)] S
  bv_omega
  exact q
theorem key_ok (n : Nat) (k : Int) (s : Nat) (S : Store) (Q : DK) (X : XK) (hs : Src S s k) (h0 : 0 ≤ k) (h1 : k + 2 < 1000000)
    (q : ∀ z k' S', -1000000000000 ≤ z → z ≤ 1000000000000 → Fr s S S' → Src S' s k' → k ≤ k' → k' ≤ k + 2 → Q (.int z) S') : callN PP (n + 4) f_law_key [.ref s] S Q X := by
  refine enter rfl rfl ?_
  show wpCs _ k_law_key_0 _ [some (.ref s), none] S
  bv_omega
  refine take_src (n + 1) k 4 s S _ _ hs h0 (by omega) (by decide) (by decide) fun w S1 w0 w1 le1 fr1 sr1 => ?_
  ac_rfl
  bv_omega
  cases hw : decide (w < 2) with
  | true =>
    show wpCs _ k_law_key_1a0 _ _ _
    bv_omega
    refine take_src (n + 1) (k + 1) 12 s S1 _ _ sr1 (by omega) (by omega) (by decide) (by decide) fun z S2 z0 z1 le2 fr2 sr2 => ?_
    exact q z _ S2 (by omega) (by omega) (fr1.trans fr2) sr2 (by omega) (by omega)
  | false =>
    show wpCs _ k_law_key_2 _ _ _
    bv_omega
    cases hw2 : (w == (2 : Int)) with
    | true =>
      show wpCs _ k_law_key_2a0 _ _ _
      bv_omega
      refine take_src (n + 1) (k + 1) 2000 s S1 _ _ sr1 (by omega) (by omega) (by decide) (by decide) fun z S2 z0 z1 le2 fr2 sr2 => ?_
      ac_rfl
      exact q _ _ S2 (by omega) (by omega) (fr1.trans fr2) sr2 (by omega) (by omega)
    | false =>
      show wpCs _ k_law_key_3 _ _ _
      bv_omega
      refine ⟨by decide, by decide, Sm.of_le (by decide) (by decide), by decide, by decide, Sm.of_le (by decide) (by decide), by decide, by decide, Sm.of_le (by decide) (by decide), by decide, by decide, Sm.of_le (by decide) (by decide), Sm.of_le (by decide) (by decide), Sm.of_le (by decide) (by decide), ?_⟩
      ac_rfl
      refine one_of_ok n (k + 1) s S1.length _ _ _ _ (sr1.push _) (by omega) (by omega) last_lst (Nat.ne_of_gt sr1.lt) nle nle fun d S2 hd le2 fr2 sr2 => ?_
      obtain ⟨z, rfl, z0, z1⟩ : ∃ z : Int, d = .int z ∧ -1000000000000 ≤ z ∧ z ≤ 1000000000000 := by
        simp only [List.mem_cons, List.not_mem_nil, or_false] at hd
        rcases hd with rfl | rfl | rfl | rfl | rfl | rfl <;> exact ⟨_, rfl, by decide, by decide⟩
      exact q z _ S2 z0 z1 ((fr1.trans (Fr.push _)).trans fr2) sr2 (by omega) (by omega)
theorem law_trees_ok (n : Nat) {kd : Kd} {f : F} {S : Store} {Q : DK} {X : XK} (r : Rt kd f) (q : ∀ S', Ext S S' → S'[S.length]? = some (.lst (f.dl kd)) → Q (.ref S.length) S') : callN PP (n + 1) f_law_trees [.str kd.s, shD kd f] S Q X := by
  refine enter rfl rfl ?_
  show wpCs _ k_law_trees_0 _ [some (.str kd.s), some (shD kd f)] S
  bv_omega
  refine kd_in (a := .count) (b := .cut) ?_
  rw [show (decide (kd = .count) || decide (kd = .cut)) = isMany kd by cases kd <;> rfl]
  unfold shD
  cases hm : isMany kd with
  | true =>
    show wpCs _ k_law_trees_0a0 _ _ _
    bv_omega
    exact q _ (Ext.push _ _) (last_get _ _)
  | false =>
    show wpCs _ k_law_trees_1 _ _ _
    have h1 := r.one hm
    have hf := r.full
    cases f with
    | nil =>
      bv_omega
      exact eqnil_pur rfl (by ac_rfl; exact q _ (Ext.push _ _) (last_get _ _))
    | hole g => cases hf
    | cons k i m c g =>
      cases g with
      | hole _ => cases hf
      | cons _ _ _ _ g' =>
        have : g'.len + 1 + 1 ≤ 1 := h1
        omega
      | nil =>
        show wpCs _ k_law_trees_1 _ [some (.str kd.s), some (ndD kd k i m (c.dl kd))] S
        bv_omega
        refine eqTup (dl_pur kd c) ?_
        ac_rfl
        exact q _ (Ext.push _ _) (last_get _ _)
theorem wf_full {kd : Kd} (h : isTwo kd = false) : ∀ {f : F}, f.wf kd → f.full = true
  | .nil, _ => rfl
  | .hole r, w => by rw [w.1] at h; cases h
  | .cons _ _ _ _ r, w => wf_full (f := r) h w.2.2.2
theorem filt_nds (kd : Kd) : ∀ f : F, ((f.dl kd).filter notNil2.notNilD).map id = f.nds.map (Nd.d kd)
  | .nil => rfl
  | .hole r => filt_nds kd r
  | .cons k i m c r => by
    show ((ndD kd k i m (c.dl kd) :: r.dl kd).filter notNil2.notNilD).map id = _
    rw [List.filter_cons, if_pos (notNil_nd kd k i m _), List.map_cons, filt_nds kd r]
    rfl
theorem law_kids_ok (n : Nat) {kd : Kd} {x : Nd} {S : Store} {Q : DK} {X : XK} (hw : x.wf kd) (hl : x.c.len ≤ 10000) (q : Q (.ref S.length) (S ++ [.lst (x.c.nds.map (Nd.d kd))])) : callN PP (n + 1) f_law_kids [.str kd.s, x.d kd] S Q X := by
  refine enter rfl rfl ?_
  show wpCs _ k_law_kids_0 _ [some (.str kd.s), some (x.d kd), none] S
  bv_omega
  refine kd_in (a := .left) (b := .skew) ?_
  rw [show (decide (kd = .left) || decide (kd = .skew)) = isTwo kd by cases kd <;> rfl]
  unfold Nd.d ndD
  cases h2 : isTwo kd with
  | true =>
    show wpCs _ k_law_kids_0a0 _ [_, some (.tup (itD (x.k, x.i) :: x.c.dl kd)), _] _
    bv_omega
    rw [cut1]
    refine lcB_map (S1 := S) notNil2.notNilD id (fun _ => trivial) (by rw [List.length_nil, F.dl_len]; omega) ?_ ?_
    · intro d hd
      refine ⟨_, rfl, fun acc => ⟨fun K hK => ?_, fun _ K hK => hK⟩⟩
      ac_rfl
      rcases dl_mem kd x.c d hd with rfl | ⟨k', i', m', c', rfl⟩
      · exact nenil_pur rfl hK
      · refine neTup (dl_pur kd c') ?_
        rw [notNil_nd] at hK
        exact hK
    · rw [List.nil_append, filt_nds]
      exact q
  | false =>
    have ef := full_d kd (wf_full h2 hw.2.2)
    rw [← ef] at q
    cases hc : isCut kd with
    | true =>
      show wpCs _ k_law_kids_1 _ [_, some (.tup [itD (x.k, x.i), .bl x.m, .tup (x.c.dl kd)]), _] _
      bv_omega
      rw [ixm3]
      ac_rfl
      exact q
    | false =>
      show wpCs _ k_law_kids_1 _ [_, some (.tup [itD (x.k, x.i), .tup (x.c.dl kd)]), _] _
      bv_omega
      rw [ixm2]
      ac_rfl
      exact q
theorem nds_pur (kd : Kd) : ∀ l : List Nd, purs (l.map (Nd.d kd)) = true ∧ PyData.canLayAll0 (pys (l.map (Nd.d kd))) = true
  | [] => ⟨rfl, rfl⟩
  | x :: l => by
    obtain ⟨h1, h2⟩ := nds_pur kd l
    obtain ⟨h3, h4⟩ := ndD_pur kd x.k x.i x.m (dl_pur kd x.c)
    exact ⟨by show ((x.d kd).pur && purs (l.map (Nd.d kd))) = true; rw [h1]; unfold Nd.d; rw [h3]; rfl, by show ((x.d kd).py.canLay0 && PyData.canLayAll0 (pys (l.map (Nd.d kd)))) = true; rw [h2]; unfold Nd.d; rw [h4]; rfl⟩
theorem szN_len : ∀ l : List Nd, l.length ≤ szN l
  | [] => Nat.le_refl _
  | x :: l => by
    have := szN_len l
    rw [szN_cons, List.length_cons]
    unfold Nd.sz
    omega
theorem len_two {kd : Kd} {x : Nd} (h : x.wf kd) : x.c.len ≤ 2 * x.c.sz + 2 := by
  rcases F.len_le kd x.c h.2.2 with z | z
  · exact z
  · have := h.1 z
    omega
theorem law_items_okF (n : Nat) {kd : Kd} {f : F} {S : Store} {Q : DK} {X : XK} (r : Rt kd f) (hsz : f.sz ≤ 4000)
    (q : ∀ S' ra, Ext S S' → S.length ≤ ra → S'[ra]? = some (.lst ((sortIt f.its).map itD)) → Q (.ref ra) S') : callN PP (n + 2) f_law_items [.str kd.s, shD kd f] S Q X := by
  refine enter rfl rfl ?_
  show wpCs _ k_law_items_0 _ [some (.str kd.s), some (shD kd f), none, none, none] S
  bv_omega
  have hf1 := last_get S (.lst [])
  have x1 := Ext.push S (.lst [])
  generalize S ++ [.lst []] = S1 at hf1 x1 ⊢
  generalize hfe : S.length = fr at hf1 ⊢
  bv_omega
  refine law_trees_ok n r fun S2 x2 h2 => ?_
  have hf2 := x2.get hf1
  have hne : fr < S1.length := get_lt hf1
  rw [full_d kd r.full] at h2
  have x02 := x1.trans x2
  generalize S1.length = wa at h2 hne ⊢
  ac_rfl
  bv_omega
  refine whB_at (fun k ρ S' => ∃ (ws : List Nd) (V : List It2) (wa : Nat) (x4 : Option D), ρ = [some (.str kd.s), some (shD kd f), some (.ref fr), some (.ref wa), x4] ∧ Ext S S' ∧ fr < wa ∧ S'[fr]? = some (.lst (V.map itD)) ∧ S'[wa]? = some (.lst (ws.map (Nd.d kd))) ∧ (∀ x ∈ ws, x.wf kd) ∧ szN ws = k ∧ k ≤ f.sz ∧ (V ++ itsN ws).Perm f.its) ?_ f.sz
    ⟨f.nds, [], wa, _, rfl, x02, hne, hf2, h2, fun x hx => F.nds_wf r.wf x hx, F.nds_sz f, Nat.le_refl _, by rw [its_nds]; exact .refl _⟩
  rintro k ρ S3 ⟨ws, V, wa, x4, rfl, x3, hne3, hf3, hw3, hwf, hk, hkf, hp⟩ N hN
  obtain ⟨p1, p2⟩ := nds_pur kd ws
  have hVl : V.length + szN ws = f.sz := by
    have := hp.length_eq
    rw [List.length_append, itsN_len, its_len] at this
    exact this
  have hwl := szN_len ws
  ac_rfl
  refine lnil_ne (l := ws.map (Nd.d kd)) (lst_of (get_push hw3 _)) (last_lst2 S3 []) rfl (purs_snap _ p1) p2 ?_
  have hf4 := get_push hf3 [.lst []]
  have hw4 := get_push hw3 [.lst []]
  have x4' := x3.trans (Ext.push S3 (.lst []))
  generalize S3 ++ [.lst []] = S4 at hf4 hw4 x4' ⊢
  rcases List.eq_nil_or_concat ws with rfl | ⟨us, x, rfl⟩
  · ac_rfl
    bv_omega
    refine sorted_go hf4 (ord_items V) ?_
    rw [sortD_it, show sortIt V = sortIt f.its from lin_it.sort_eq (by simpa [itsN] using hp)]
    exact q _ _ (x4'.trans (Ext.push _ _)) x4'.len (last_get _ _)
  · rw [List.concat_eq_append] at *
    have e1 : ((us ++ [x]).map (Nd.d kd)).isEmpty = false := by simp
    rw [e1]
    have e2 : (us ++ [x]).map (Nd.d kd) = us.map (Nd.d kd) ++ [x.d kd] := by simp
    rw [e2] at hw4
    rw [szN_app, szN_cons] at hk hVl
    have hx0 : szN [] = 0 := rfl
    have hxs : x.sz = x.c.sz + 1 := rfl
    have hxw := hwf x (by simp)
    show wpCs _ k_law_items_2a0 _ _ _
    bv_omega
    refine ⟨recv_l hw4, pop_go hw4 ?_⟩
    have hw5 : (S4.set wa (.lst (us.map (Nd.d kd))))[wa]? = _ := get_set hw4
    have hf5 : (S4.set wa (.lst (us.map (Nd.d kd))))[fr]? = _ := get_set_ne hf4 (by omega)
    have x5 := x4'.set (n := wa) (by omega) (.lst (us.map (Nd.d kd)))
    generalize S4.set wa (.lst (us.map (Nd.d kd))) = S5 at hw5 hf5 x5 ⊢
    obtain ⟨rr, er, _⟩ := nd_head kd x.k x.i x.m (x.c.dl kd)
    have ed : x.d kd = .tup (itD (x.k, x.i) :: rr) := er
    ac_rfl
    refine cs_cons ?_
    rw [ed]
    ac_rfl
    refine ⟨recv_l hf5, append_go hf5 (by rw [List.length_map]; omega) ?_⟩
    rw [show V.map itD ++ [itD (x.k, x.i)] = (V ++ [(x.k, x.i)]).map itD by rw [List.map_append]; rfl]
    have hf6 : (S5.set fr (.lst ((V ++ [(x.k, x.i)]).map itD)))[fr]? = _ := get_set hf5
    have hw6 : (S5.set fr (.lst ((V ++ [(x.k, x.i)]).map itD)))[wa]? = _ := get_set_ne hw5 (by omega)
    have x6 := x5.set (n := fr) (by omega) (.lst ((V ++ [(x.k, x.i)]).map itD))
    generalize S5.set fr (.lst ((V ++ [(x.k, x.i)]).map itD)) = S6 at hf6 hw6 x6 ⊢
    ac_rfl
    bv_omega
    rw [← ed]
    refine law_kids_ok n hxw (by have := len_two hxw; omega) ?_
    have hnl := szN_len x.c.nds
    rw [F.nds_sz] at hnl
    have hul := szN_len us
    refine addl_go (get_push hw6 _) (last_get _ _) (by rw [List.length_map, List.length_map]; omega) ?_
    rw [← List.map_append]
    ac_rfl
    refine hN (k - 1) _ _ (by omega) ⟨us ++ x.c.nds, V ++ [(x.k, x.i)], _, _, rfl, x6.trans ((Ext.push _ _).trans (Ext.push _ _)), ?_, get_push (get_push hf6 _) _, last_get _ _, ?_, ?_, by omega, ?_⟩
    · have := get_lt hf6
      simp
      omega
    · intro y hy
      rcases List.mem_append.mp hy with h | h
      · exact hwf y (List.mem_append_left _ h)
      · exact F.nds_wf hxw.2.2 y h
    · rw [szN_app, F.nds_sz]
      omega
    · refine List.Perm.trans ?_ hp
      rw [itsN_app, itsN_app, ← its_nds]
      show (V ++ [(x.k, x.i)] ++ (itsN us ++ x.c.its)).Perm (V ++ (itsN us ++ (((x.k, x.i) :: x.c.its) ++ [])))
      rw [List.append_nil, List.append_assoc]
      refine List.Perm.append_left _ ?_
      show ((x.k, x.i) :: (itsN us ++ x.c.its)).Perm _
      exact List.perm_middle.symm
end Mn

/-! Deeds that are drawn; shapes that grow by them. -/
namespace Mn
open PySem
inductive Dd where
  | put (k i : Int) | take | drop (k i : Int) | low (k i k' : Int)
def Dd.d : Dd → D
  | .put k i => .tup [.str "put", itD (k, i)]
  | .take => .tup [.str "take"]
  | .drop k i => .tup [.str "drop", itD (k, i)]
  | .low k i k' => .tup [.str "lower", itD (k, i), .int k']
def KB (its : List It2) : Prop := ∀ p ∈ its, -1000000000000 ≤ p.1 ∧ p.1 ≤ 1000000000000
def Dd.ok (its : List It2) (tk : Int) : Dd → Prop
  | .put k i => i = tk ∧ -1000000000000 ≤ k ∧ k ≤ 1000000000000
  | .take => its ≠ []
  | .drop k i => (k, i) ∈ its
  | .low k i k' => (k, i) ∈ its ∧ k' ≤ k ∧ -1000000000000 ≤ k'
/-- what a deed makes of the items -/
def Dd.made (its : List It2) (new : List It2) : Dd → Prop
  | .put k i => new.Perm ((k, i) :: its)
  | .take => ∃ p, (p :: new).Perm its
  | .drop k i => ((k, i) :: new).Perm its
  | .low k i k' => ∃ r, its.Perm ((k, i) :: r) ∧ new.Perm ((k', i) :: r)
theorem sort_mem {its : List It2} {p : It2} (h : p ∈ sortIt its) : p ∈ its := List.mem_mergeSort.mp h
theorem sort_len (its : List It2) : (sortIt its).length = its.length := List.length_mergeSort _
theorem ix_it (p : It2) (S : Store) (Q : DK) : ixD (itD p) (.int 0) S Q = Q (.int p.1) S := r_ix0 _ _ _ _
theorem ix_it1 (p : It2) (S : Store) (Q : DK) : ixD (itD p) (.int 1) S Q = Q (.int p.2) S := r_ix1 _ _ _ _ _
theorem deed_ok (n : Nat) (k tk : Int) (s ra : Nat) (its : List It2) (S : Store) (Q : DK) (X : XK) (hs : Src S s k) (h0 : 0 ≤ k) (h1 : k + 10 < 1000000) (hr : S[ra]? = some (.lst ((sortIt its).map itD))) (hne : ra ≠ s) (hl : its.length ≤ 1000) (kb : KB its)
    (q : ∀ dd k' S', Dd.ok its tk dd → Fr s S S' → Src S' s k' → k ≤ k' → k' ≤ k + 6 → Q dd.d S') : callN PP (n + 5) f_law_deed [.ref s, .ref ra, .int tk] S Q X := by
  refine enter rfl rfl ?_
  show wpCs _ k_law_deed_0 _ [some (.ref s), some (.ref ra), some (.int tk), none, none, none] S
  bv_omega
  refine take_src (n + 2) k 10 s S _ _ hs h0 (by omega) (by decide) (by decide) fun w S1 w0 w1 le1 fr1 sr1 => ?_
  have hr1 : S1[ra]? = some (.lst ((sortIt its).map itD)) := by rw [fr1.2 ra (get_lt hr) hne]; exact hr
  ac_rfl
  bv_omega
  have putc : ∀ S2 : Store, Fr s S S2 → Src S2 s (k + 1) → wpCs (callN PP (n + 4)) k_law_deed_1a0 ⟨fun ρ1 S1 => wpCs (callN PP (n + 4)) k_law_deed_2 (rtEnds Q X) ρ1 S1, Q, fun _ _ => False, fun _ _ => False, X⟩ [some (.ref s), some (.ref ra), some (.int tk), some (.int w), none, none] S2 := by
    intro S2 fr2 sr2
    bv_omega
    refine key_ok n (k + 1) s S2 _ _ sr2 (by omega) (by omega) fun z k' S3 z0 z1 fr3 sr3 k0 k1 => ?_
    ac_rfl
    exact q (.put z tk) k' S3 ⟨rfl, z0, z1⟩ (fr2.trans fr3) sr3 (by omega) (by omega)
  refine lnil_eq (l := (sortIt its).map itD) (lst_of (get_push hr1 _)) (last_lst2 S1 []) rfl (purs_snap _ (nums_pur (items_num _))) (nums_lay (items_num _)) ?_
  have hr2 := get_push hr1 [.lst []]
  have fr2 : Fr s S (S1 ++ [.lst []]) := fr1.trans (Fr.push _)
  have sr2 := sr1.push [.lst []]
  generalize S1 ++ [.lst []] = S2 at hr2 fr2 sr2 ⊢
  cases hs0 : sortIt its with
  | nil => exact putc S2 fr2 sr2
  | cons p0 rest =>
    show match D.bl (decide (w < 5)) with | .bl true => _ | .bl false => _ | _ => False
    cases hw5 : decide (w < 5) with
    | true => exact putc S2 fr2 sr2
    | false =>
      have hlen := sort_len its
      show wpCs _ k_law_deed_2 _ _ _
      bv_omega
      refine one_of_ok (n + 1) (k + 1) s ra _ S2 _ _ sr2 (by omega) (by omega) (lst_of hr2) hne (by rw [List.length_map, hs0]; simp) (by rw [List.length_map]; omega) fun d S3 hd le3 fr3 sr3 => ?_
      obtain ⟨p, hp, rfl⟩ := List.mem_map.mp hd
      have hpi := sort_mem hp
      have hr3 : S3[ra]? = some (.lst ((sortIt its).map itD)) := by rw [fr3.2 ra (get_lt hr2) hne]; exact hr2
      ac_rfl
      bv_omega
      cases hw6 : (w == (5 : Int)) with
      | true =>
        show wpCs _ k_law_deed_3a0 _ _ _
        bv_omega
        exact q .take _ S3 (fun z => by rw [z] at hpi; cases hpi) (fr2.trans fr3) sr3 (by omega) (by omega)
      | false =>
        show wpCs _ k_law_deed_4 _ _ _
        bv_omega
        cases hw7 : (w == (6 : Int)) with
        | true =>
          show wpCs _ k_law_deed_4a0 _ _ _
          bv_omega
          exact q (.drop p.1 p.2) _ S3 hpi (fr2.trans fr3) sr3 (by omega) (by omega)
        | false =>
          show wpCs _ k_law_deed_5 _ _ _
          rw [hs0, List.map_cons] at hr3
          bv_omega
          rw [ix_it]
          ac_rfl
          rw [ix_it]
          ac_rfl
          refine ixn_go (j := 0) hr3 rfl rfl ?_
          ac_rfl
          rw [ix_it]
          ac_rfl
          refine ixn_go (j := 0) hr3 rfl rfl ?_
          ac_rfl
          rw [ix_it]
          ac_rfl
          refine key_ok n (k + 1 + 1) s S3 _ _ sr3 (by omega) (by omega) fun z k' S4 z0 z1 fr4 sr4 k0 k1 => ?_
          ac_rfl
          refine one_of_ok (n + 1) k' s S4.length _ _ _ _ (sr4.push _) (by omega) (by omega) last_lst (Nat.ne_of_gt sr4.lt) nle nle fun d S5 hd le5 fr5 sr5 => ?_
          obtain ⟨y, rfl⟩ : ∃ y : Int, d = .int y := by
            simp only [List.mem_cons, List.not_mem_nil, or_false] at hd
            rcases hd with rfl | rfl | rfl | rfl | rfl <;> exact ⟨_, rfl⟩
          ac_rfl
          bv_omega
          refine ⟨by decide, by decide, Sm.of_le (by decide) (by decide), ?_⟩
          ac_rfl
          rw [ix_it]
          ac_rfl
          have hb := kb p hpi
          have e0 : (10 : Int) ^ (12 : Int).toNat = 1000000000000 := by decide
          rw [e0]
          refine q (.low p.1 p.2 (imax (-1000000000000) (imin y p.1))) _ S5 ⟨hpi, ?_, ?_⟩ ((fr2.trans fr3).trans ((fr4.trans (Fr.push _)).trans fr5)) sr5 (by omega) (by omega)
          · unfold imax imin
            split <;> split at * <;> omega
          · unfold imax imin
            split <;> split at * <;> omega
/-- a shape that has grown -/
structure GF (kd : Kd) (f : F) (n : Nat) (lo hi : Int) : Prop where
  rt : Rt kd f
  nd : f.all.Nodup
  tb : ∀ i ∈ f.all, lo ≤ i ∧ i < hi
  sz : f.sz ≤ n
  kb : KB f.its
theorem GF.nil (kd : Kd) (lo hi : Int) : GF kd .nil 0 lo hi := ⟨⟨rfl, trivial, fun _ => Nat.zero_le _⟩, List.nodup_nil, (fun _ h => (nomatch h)), Nat.le_refl _, (fun _ h => (nomatch h))⟩
/-- a deed makes of a grown shape a grown one -/
theorem GF.made {kd : Kd} {f f' : F} {n : Nat} {lo tk : Int} {dd : Dd} (g : GF kd f n lo tk) (hlo : lo ≤ tk) (r : Rt kd f') (ok : Dd.ok f.its tk dd) (h : Dd.made f.its f'.its dd) : GF kd f' (n + 1) lo (tk + 1) := by
  have all : ∀ (k i : Int) (l : List It2), (∀ p ∈ l, p ∈ f.its) → f'.its.Perm ((k, i) :: l) → (i :: l.map Prod.snd).Nodup → (lo ≤ i ∧ i < tk + 1) → (-1000000000000 ≤ k ∧ k ≤ 1000000000000) → l.length ≤ n → GF kd f' (n + 1) lo (tk + 1) := by
    intro k i l sub p nd hi hk hl
    refine ⟨r, ?_, fun j hj => ?_, ?_, fun q hq => ?_⟩
    · rw [← its_all]
      exact (p.map Prod.snd).nodup_iff.mpr nd
    · rw [← its_all] at hj
      have := (p.map Prod.snd).subset hj
      rcases List.mem_cons.mp this with z | z
      · rw [z]
        exact hi
      · obtain ⟨y, hy, rfl⟩ := List.mem_map.mp z
        have := g.tb y.2 (by rw [← its_all]; exact List.mem_map.mpr ⟨y, sub y hy, rfl⟩)
        omega
    · rw [← its_len, p.length_eq, List.length_cons]
      omega
    · rcases List.mem_cons.mp (p.subset hq) with z | z
      · rw [z]
        exact hk
      · exact g.kb q (sub q z)
  have nd := g.nd
  rw [← its_all] at nd
  have szl := g.sz
  rw [← its_len] at szl
  have less : ∀ (l : List It2), (∀ p ∈ l, p ∈ f.its) → f'.its.Perm l → (l.map Prod.snd).Nodup → l.length ≤ n → GF kd f' (n + 1) lo (tk + 1) := by
    intro l sub p nd hl
    refine ⟨r, ?_, fun j hj => ?_, ?_, fun q hq => g.kb q (sub q (p.subset hq))⟩
    · rw [← its_all]
      exact (p.map Prod.snd).nodup_iff.mpr nd
    · rw [← its_all] at hj
      obtain ⟨y, hy, rfl⟩ := List.mem_map.mp ((p.map Prod.snd).subset hj)
      have := g.tb y.2 (by rw [← its_all]; exact List.mem_map.mpr ⟨y, sub y hy, rfl⟩)
      omega
    · rw [← its_len, p.length_eq]
      omega
  cases dd with
  | put k i =>
    obtain ⟨rfl, k0, k1⟩ := ok
    refine all k i f.its (fun p hp => hp) h (List.nodup_cons.mpr ⟨fun z => ?_, nd⟩) ⟨hlo, by omega⟩ ⟨k0, k1⟩ szl
    rw [its_all] at z
    have := g.tb i z
    omega
  | take =>
    obtain ⟨p, hp⟩ := h
    have nd2 := (hp.map Prod.snd).nodup_iff.mpr nd
    refine less f'.its (fun q hq => hp.subset (List.mem_cons_of_mem _ hq)) (.refl _) (List.nodup_cons.mp nd2).2 ?_
    have := hp.length_eq
    rw [List.length_cons] at this
    omega
  | drop k i =>
    have hp : ((k, i) :: f'.its).Perm f.its := h
    have nd2 := (hp.map Prod.snd).nodup_iff.mpr nd
    refine less f'.its (fun q hq => hp.subset (List.mem_cons_of_mem _ hq)) (.refl _) (List.nodup_cons.mp nd2).2 ?_
    have := hp.length_eq
    rw [List.length_cons] at this
    omega
  | low k i k' =>
    obtain ⟨l, p1, p2⟩ := h
    obtain ⟨h1, h2, h3⟩ := ok
    have nd2 := (p1.map Prod.snd).nodup_iff.mp nd
    have hb := g.kb _ h1
    have ht := g.tb i (by rw [← its_all]; exact List.mem_map.mpr ⟨_, h1, rfl⟩)
    have e : (k, i).1 = k := rfl
    refine all k' i l (fun p hp => p1.symm.subset (List.mem_cons_of_mem _ hp)) p2 nd2 ⟨ht.1, by omega⟩ ⟨h3, by omega⟩ ?_
    have := p1.length_eq
    rw [List.length_cons] at this
    omega
theorem GF.mono {kd : Kd} {f : F} {n n' : Nat} {lo hi lo' hi' : Int} (g : GF kd f n lo hi) (h1 : n ≤ n') (h2 : lo' ≤ lo) (h3 : hi ≤ hi') : GF kd f n' lo' hi' := ⟨g.rt, g.nd, fun i hi => by have := g.tb i hi; omega, Nat.le_trans g.sz h1, g.kb⟩
theorem rng_len2 (a b : Int) : (rngL a b).length = (b - a).toNat := by unfold rngL; simp
theorem grown_okF (m L : Nat) {kd : Kd} {J : F → Prop} {many : Nat} {k0 base : Int} {s : Nat} {S : Store} {Q : DK} {X : XK} (hL : 5 ≤ L) (hs : Src S s k0) (h0 : 0 ≤ k0) (h1 : k0 ≤ 10000) (hmany : many ≤ 300) (hb : 0 ≤ base)
    (hJ0 : J .nil)
    (hp : ∀ (f : F) (i : Nat) (dd : Dd) (S : Store) (Q : DK), i < many → GF kd f i base (base + i) → J f → Dd.ok f.its (base + i) dd → (∀ f' w S', Ext S S' → Rt kd f' → Dd.made f.its f'.its dd → J f' → Q (.tup [shD kd f', .int w]) S') → callN PP L f_law_by_program [.str kd.s, shD kd f, dd.d] S Q X)
    (q : ∀ f k' S', GF kd f many base (base + many) → J f → Fr s S S' → Src S' s k' → k0 ≤ k' → k' ≤ k0 + 6 * many → Q (shD kd f) S') : callN PP (L + 1) f_law_grown [.ref s, .str kd.s, .int many, .int base] S Q X := by
  refine enter rfl rfl ?_
  show wpCs _ k_law_grown_0 _ [some (.ref s), some (.str kd.s), some (.int many), some (.int base), none, none] S
  have e0 : shD kd .nil = .tup [] := by cases kd <;> rfl
  bv_omega
  bv_omega
  refine rng_go (by decide) (by decide) (by omega) (by omega) ?_
  refine forB_at _ (fun i ρ S' => i ≤ many ∧ ∃ f k' x5, ρ = [some (.ref s), some (.str kd.s), some (.int many), some (.int base), some (shD kd f), x5] ∧ GF kd f i base (base + i) ∧ J f ∧ Fr s S S' ∧ Src S' s k' ∧ k0 ≤ k' ∧ k' ≤ k0 + 6 * i) (fun _ _ _ _ => trivial) ?_ ?_ ?_
  · rintro ρ S' ⟨_, f, k', x5, rfl, g, gj, fr, sr, e1, e2⟩
    rw [rng_len2, Int.sub_zero, Int.toNat_natCast] at g e2
    ac_rfl
    bv_omega
    exact q f k' S' g gj fr sr e1 e2
  · rintro i d hd ρ S1 ⟨_, f, k', x5, rfl, g, gj, fr, sr, e1, e2⟩ N hN
    obtain ⟨rfl, hi⟩ := rng_get hd
    simp only [Int.zero_add]
    refine ⟨_, rfl, ?_⟩
    bv_omega
    obtain ⟨L', rfl⟩ : ∃ L', L = L' + 5 := ⟨L - 5, by omega⟩
    refine law_items_okF (L' + 3) g.rt (by have := g.sz; omega) fun S2 ra x2 hra h2 => ?_
    ac_rfl
    have sr2 := sr.ext2 x2
    have hne : ra ≠ s := Nat.ne_of_gt (Nat.lt_of_lt_of_le sr.lt hra)
    refine deed_ok L' k' (base + i) s ra f.its S2 _ _ sr2 (by omega) (by omega) h2 hne (by rw [its_len]; have := g.sz; omega) g.kb fun dd k2 S3 ok fr3 sr3 q0 q1 => ?_
    ac_rfl
    refine hp f i dd S3 _ (by omega) g gj ok fun f' w S4 x4 rt' md jj => ?_
    ac_rfl
    refine hN _ _ ⟨by omega, f', k2, _, rfl, ?_, jj, (Ext.frs2 fr x2).trans (Ext.frs2 fr3 x4), sr3.ext2 x4, by omega, by omega⟩
    have := g.made (by omega) rt' ok md
    rw [show base + ((i + 1 : Nat) : Int) = base + i + 1 by omega]
    exact this
  · exact ⟨Nat.zero_le _, .nil, k0, _, by rw [e0], by simpa using GF.nil kd base base, hJ0, Fr.refl _ _, hs, by omega, by omega⟩
theorem eqit_go {p q : It2} {S : Store} {K : Bool → Prop} (k : K (decide (p = q))) : cmpB .Eq (itD p) (itD q) S K := by
  show cEq (itD p) (itD q) S K
  unfold cEq
  show ∃ p' q', _
  refine ⟨(itD p).py, (itD q).py, pur_snap S rfl, pur_snap S rfl, rfl, rfl, ?_, ?_⟩
  · show min (itD p).py.depth (itD q).py.depth ≤ 150
    have : (itD p).py.depth = 1 := rfl
    omega
  · rw [eqv_it]
    exact k
theorem ixm_go {S : Store} {n : Nat} {l : List D} {j k : Nat} {d : D} {Q : DK} (h : S[n]? = some (.lst l)) (hk : k ≤ l.length) (hk0 : 0 < k) (e : l[l.length - k]? = some d) (q : Q d S) : ixD (.ref n) (.int (-(k : Int))) S Q := by
  refine ixl_go h ?_ q
  unfold L2.atI L2.ixN
  rw [if_neg (by omega), if_pos (by omega)]
  show l[(-(k : Int) + (l.length : Int)).toNat]? = some d
  rw [show (-(k : Int) + (l.length : Int)).toNat = l.length - k by omega]
  exact e
end Mn

/-! Items in order. -/
namespace Mn
open PySem
theorem le_of_lt {p q : It2} (h : itLt p q = true) : itLe p q = true := by
  unfold itLt itLe at *
  rw [decide_eq_true_iff] at *
  omega
theorem le_of_nlt {p q : It2} (h : itLt p q = false) : itLe q p = true := by
  unfold itLt itLe at *
  rw [decide_eq_true_iff]
  rw [decide_eq_false_iff_not] at h
  omega
theorem le_refl (p : It2) : itLe p p = true := by
  unfold itLe
  rw [decide_eq_true_iff]
  omega
/-- no less than what is above, if anything is -/
def leO (p : Option It2) (q : It2) : Prop := ∀ r, p = some r → itLe r q = true
theorem leO_none (q : It2) : leO none q := fun _ h => nomatch h
theorem leO_some {p q : It2} (h : itLe p q = true) : leO (some p) q := fun _ e => by cases e; exact h
theorem low_le {k k' c : Int} (h : k' ≤ k) : itLe (k', c) (k, c) = true := by
  unfold itLe
  rw [decide_eq_true_iff]
  show k' < k ∨ k' = k ∧ c ≤ c
  omega
theorem sort_head {its : List It2} {p : It2} (hp : p ∈ its) (h : ∀ q ∈ its, itLe p q = true) : ∃ r, sortIt its = p :: r := by
  have hs := lin_it.sorted its
  have hm : ∀ q, q ∈ sortIt its ↔ q ∈ its := fun q => List.mem_mergeSort
  cases hl : sortIt its with
  | nil =>
    have := (hm p).mpr hp
    rw [hl] at this
    cases this
  | cons a r =>
    have hs : (sortIt its).Pairwise fun a b => itLe a b = true := hs
    rw [hl] at hs
    have ha : a ∈ its := (hm a).mp (by rw [hl]; exact List.mem_cons_self)
    have hpa : p ∈ a :: r := by rw [← hl]; exact (hm p).mpr hp
    rcases List.mem_cons.mp hpa with z | z
    · exact ⟨r, by rw [z]⟩
    · exact ⟨r, by rw [lin_it.anti a p (List.rel_of_pairwise_cons hs z) (h a ha)]⟩
end Mn

/-! The shape of a table, of the kinds whose trees have lists of trees. -/
namespace Mn
open PySem
theorem full_tk : ∀ {f : F}, f.full = true → f.tk = f.nds.map fun x => some x.i
  | .nil, _ => rfl
  | .hole _, h => by cases h
  | .cons k i m c r, h => by
    show some i :: r.tk = _
    rw [full_tk (f := r) h]
    rfl
theorem tree_okF (m : Nat) {S : Store} {t N md : Nat} {B : Nat → Prop} {M : TM} {x : Nd} {p : Option Int} {kvs : List (Key × D)} {Q : DK} {X : XK} (T : Tab S t B N M) (nt : isTwo M.kind = false) (h : AtN M p x) (hf : x.c.full = true) (hl : x.c.sz ≤ 10000) (hm : S[md]? = some (.dct kvs)) (hk : ∀ y ∈ x.c.nds, dGet kvs (.inl y.i) = some (y.d M.kind))
    (q : ∀ S', Ext S S' → Q (x.d M.kind) S') : callN PP (m + 2) f_Table_tree [.ref t, .int x.i, .ref md] S Q X := by
  obtain ⟨w, T⟩ := T
  obtain ⟨q1, q2, q3, q4, q5⟩ := h
  rw [full_tk hf] at q2
  refine enter rfl rfl ?_
  show wpCs _ k_Table_tree_0 _ [some (.ref t), some (.int x.i), some (.ref md), none, none] S
  bv_omega
  obtain ⟨bb, e1, e2, e3, e4⟩ := kids_at T q2
  refine attr_go T.ins (tb_kids M w) ?_
  refine ixi_go T.d2 e1 ?_
  refine it_lst e2 ?_
  have em : (x.c.nds.map fun y => some y.i).map oI = x.c.nds.map fun y => D.int y.i := by rw [List.map_map]; rfl
  rw [em] at e2 ⊢
  have hnl := nds_len x.c
  refine lcB_map (S1 := S) (fun _ => true) (lookM kvs) (fun acc => lst_of (get_push e2 _)) (by rw [List.length_map, List.length_nil]; omega) (fun d hd => ?_) ?_
  · obtain ⟨y, hy, rfl⟩ := List.mem_map.mp hd
    refine ⟨_, rfl, fun acc => ⟨fun K hK => hK, fun _ K hK => ?_⟩⟩
    ac_rfl
    refine ixi_go (get_push hm _) (hk y hy) ?_
    have : lookM kvs (.int y.i) = y.d M.kind := by
      show (dGet kvs (.inl y.i)).getD .non = _
      rw [hk y hy]
      rfl
    rw [this] at hK
    exact hK
  rw [List.nil_append, filter_all, List.map_map]
  have ek : x.c.nds.map (lookM kvs ∘ fun y => D.int y.i) = x.c.dl M.kind := by
    rw [full_d M.kind hf]
    refine List.map_congr_left fun y hy => ?_
    show (dGet kvs (.inl y.i)).getD .non = _
    rw [hk y hy]
    rfl
  rw [ek]
  have T1 := T.keep (S' := S ++ [Ob.lst (x.c.dl M.kind)]) fun j o _ h => get_push h _
  have x1 := Ext.push S (Ob.lst (x.c.dl M.kind))
  refine tuple_go (last_get _ _) ?_
  ac_rfl
  generalize S ++ [Ob.lst (x.c.dl M.kind)] = S1 at *
  have hq := q S1 x1
  unfold Nd.d ndD at hq
  rw [nt, if_neg Bool.false_ne_true] at hq
  bv_omega
  refine attr_go T1.ins (tb_kind M w) ?_
  refine kd_in (a := .left) (b := .skew) ?_
  rw [show (decide (M.kind = .left) || decide (M.kind = .skew)) = isTwo M.kind by cases M.kind <;> rfl, nt]
  ac_rfl
  bv_omega
  refine attr_go T1.ins (tb_kind M w) ?_
  refine kd_eq (b := .cut) ?_
  rw [show decide (M.kind = .cut) = isCut M.kind by cases M.kind <;> rfl]
  cases hc : isCut M.kind with
  | true =>
    rw [hc, if_pos rfl] at hq
    show wpCs _ k_Table_tree_2a0 _ _ _
    bv_omega
    refine meth_go T1.ins rfl ?_
    refine item_ok m ⟨w, T1⟩ q1 ?_
    ac_rfl
    refine attr_go T1.ins (tb_marks M w) ?_
    refine ixi_go T1.d4 (T1.g4.some q4) ?_
    ac_rfl
    exact hq
  | false =>
    rw [hc, if_neg Bool.false_ne_true] at hq
    show wpCs _ k_Table_tree_3 _ _ _
    bv_omega
    refine meth_go T1.ins rfl ?_
    refine item_ok m ⟨w, T1⟩ q1 ?_
    ac_rfl
    exact hq
def inI (x : Nd) : D := .int x.i
theorem shape_okF (m : Nat) {S : Store} {t N : Nat} {B : Nat → Prop} {M : TM} {f : F} {Q : DK} {X : XK} (T : Tab S t B N M) (nt : isTwo M.kind = false) (r : Rt M.kind f) (er : M.roots = f.nds.map Nd.i) (h : AtF M none f) (hn : f.sz ≤ 5000)
    (q : ∀ S', Ext S S' → Q (shD M.kind f) S') : callN PP (m + 3) f_Table_shape [.ref t] S Q X := by
  have eroots : M.roots.map D.int = f.nds.map inI := by
    rw [er, List.map_map]
    rfl
  have nl := nds_len f
  have szn := F.nds_sz f
  refine enter rfl rfl ?_
  show wpCs _ k_Table_shape_0 _ [some (.ref t), none, none, none, none, none, none] S
  obtain ⟨w, Tw⟩ := T
  have T : Tab S t B N M := ⟨w, Tw⟩
  bv_omega
  refine attr_go Tw.ins (tb_roots M w) ?_
  have r6 := Tw.r6
  rw [eroots] at r6
  refine listl_go r6 ?_
  ac_rfl
  bv_omega
  bv_omega
  -- what is known of all trees
  have facts : ∀ x ∈ bfsN f.sz f.nds, (∃ p, AtN M p x) ∧ x.wf M.kind ∧ x.sz ≤ f.sz := by
    refine bfsN_P (P := fun x => (∃ p, AtN M p x) ∧ x.wf M.kind ∧ x.sz ≤ f.sz) (fun x hx y hy => ?_) _ _ (fun x hx => ?_)
    · obtain ⟨⟨p, h1⟩, h2, h3⟩ := hx
      refine ⟨⟨_, atF_iff.mp h1.2.2.2.2 y hy⟩, F.nds_wf h2.2.2 y hy, ?_⟩
      have h5 : szN [y] ≤ szN x.c.nds := by
        have : ∀ l : List Nd, y ∈ l → y.sz ≤ szN l := by
          intro l
          induction l with
          | nil => exact fun h => nomatch h
          | cons z l ih =>
            intro hz
            rw [szN_cons]
            rcases List.mem_cons.mp hz with rfl | hz
            · omega
            · have := ih hz
              omega
        have := this _ hy
        simpa [szN] using this
      rw [F.nds_sz] at h5
      have h6 : szN [y] = y.sz := by simp [szN]
      have h7 : x.sz = x.c.sz + 1 := rfl
      omega
    · refine ⟨⟨_, atF_iff.mp h x hx⟩, F.nds_wf r.wf x hx, ?_⟩
      have : ∀ l : List Nd, x ∈ l → x.sz ≤ szN l := by
        intro l
        induction l with
        | nil => exact fun h => nomatch h
        | cons z l ih =>
          intro hz
          rw [szN_cons]
          rcases List.mem_cons.mp hz with rfl | hz
          · omega
          · have := ih hz
            omega
      have := this _ hx
      omega
  refine whB_at (fun k ρ S' => ∃ (dn qu : List Nd) (x3 : Option D), ρ = [some (.ref t), some (.ref S.length), some (.int (dn.length : Nat)), x3, none, none, none] ∧ Ext S S' ∧ S'[S.length]? = some (.lst ((dn ++ qu).map inI)) ∧ bfsN f.sz f.nds = dn ++ bfsN k qu ∧ szN qu = k ∧ k + dn.length ≤ f.sz) ?_ f.sz ⟨[], f.nds, _, rfl, Ext.push _ _, last_get _ _, rfl, szn, by simp⟩
  rintro k ρ S' ⟨dn, qu, x3, rfl, hx, go, eb, hq, hkd⟩ N2 hN2
  have hql := szN_len qu
  ac_rfl
  refine len_go go (by rw [List.length_map, List.length_append]; omega) ?_
  ac_rfl
  rw [List.length_map, List.length_append]
  cases qu with
  | cons x qu =>
    rw [decide_eq_true (by simp; omega)]
    rw [szN_cons] at hq
    have hxs : x.sz = x.c.sz + 1 := rfl
    obtain ⟨k, rfl⟩ : ∃ k', k = k' + 1 := ⟨k - 1, by omega⟩
    have hxm : x ∈ bfsN f.sz f.nds := by
      rw [eb]
      exact List.mem_append_right _ List.mem_cons_self
    obtain ⟨⟨p, hx1⟩, hx2, _⟩ := facts x hxm
    have hxf := wf_full nt hx2.2.2
    have hx3 := hx1.2.1
    rw [full_tk hxf] at hx3
    show wpCs _ k_Table_shape_2a0 _ _ _
    obtain ⟨w2, Tb⟩ := T.ext hx
    obtain ⟨bb, e1, e2, e3, e4⟩ := kids_at Tb hx3
    bv_omega
    refine attr_go Tb.ins (tb_kids M w2) ?_
    have hget : ((dn ++ x :: qu).map inI)[dn.length]? = some (.int x.i) := by
      rw [List.getElem?_map, List.getElem?_append_right (Nat.le_refl _), Nat.sub_self]
      rfl
    refine ixn_go go rfl hget ?_
    ac_rfl
    refine ixi_go Tb.d2 e1 ?_
    have em : (x.c.nds.map fun y => some y.i).map oI = x.c.nds.map inI := by rw [List.map_map]; rfl
    rw [em] at e2
    refine it_lst e2 ?_
    have hnl := nds_len x.c
    refine lcB_map (S1 := S') (fun _ => true) id (fun acc => lst_of (get_push e2 _)) (by rw [List.length_map, List.length_nil]; omega) (fun d hd => ?_) ?_
    · obtain ⟨y, hy, rfl⟩ := List.mem_map.mp hd
      refine ⟨_, rfl, fun acc => ⟨fun K hK => ?_, fun _ K hK => hK⟩⟩
      show wpE _ _ [_, _, _, some (.int y.i), _, _, _] _ _ _
      ac_rfl
      exact hK
    rw [List.nil_append, filter_all, List.map_id]
    rw [List.length_cons, szN_cons] at hql
    refine iadd_go (get_push go _) (last_get _ _) (by rw [List.length_map, List.length_append, List.length_cons, List.length_map]; omega) ?_
    ac_rfl
    bv_omega
    refine hN2 k _ _ (Nat.lt_succ_self _) ⟨dn ++ [x], qu ++ x.c.nds, x3, ?_, (hx.trans (Ext.push _ _)).set (Nat.le_refl _) _, ?_, ?_, ?_, ?_⟩
    · rw [List.length_append]
      rfl
    · rw [get_set (get_push go _)]
      simp
    · rw [eb]
      show dn ++ (x :: bfsN k (qu ++ x.c.nds)) = _
      simp
    · rw [szN_app, F.nds_sz]
      omega
    · rw [List.length_append]
      show k + (dn.length + 1) ≤ _
      omega
  | nil =>
    rw [decide_eq_false (by simp)]
    have ek : k = 0 := hq.symm
    subst ek
    have eL : bfsN f.sz f.nds = dn := by
      rw [eb]
      show dn ++ bfsN 0 [] = dn
      unfold bfsN
      rw [List.append_nil]
    rw [List.append_nil] at go
    ac_rfl
    bv_omega
    show wpCs _ k_Table_shape_4 _ [some (.ref t), some (.ref S.length), some (.int (dn.length : Nat)), x3, some (.ref S'.length), none, none] (S' ++ [.dct []])
    bv_omega
    refine revl_go (get_push go _) ?_
    refine it_lst (last_get _ _) ?_
    have ln : dn.length ≤ f.sz := by have := bfsN_len f.sz f.nds; rw [eL] at this; exact this
    have hlt0 := get_lt go
    have hS := hx.len
    refine forB_at _ (fun i ρ S2 => i ≤ dn.length ∧ ∃ (kvs : List (Key × D)) (x5 : Option D), ρ = [some (.ref t), some (.ref S.length), some (.int (dn.length : Nat)), x3, some (.ref S'.length), x5, none] ∧ Ext S S2 ∧ S2[S'.length + 1]? = some (.lst (dn.map inI).reverse) ∧ S2[S'.length]? = some (.dct kvs) ∧ kvs.length ≤ i ∧ ∀ y ∈ dn.reverse.take i, dGet kvs (.inl y.i) = some (y.d M.kind)) ?_ ?_ ?_ ?_
    · rintro i ρ S2 ⟨_, kvs, x5, rfl, x2, gr, gm, hl, hd⟩
      have e : (S' ++ [Ob.dct []]).length = S'.length + 1 := by simp
      show lst? S2 (S' ++ [Ob.dct []]).length = _
      rw [e]
      exact lst_of gr
    · rintro ρ S2 ⟨_, kvs, x5, rfl, x2, gr, gm, hl, hd⟩
      have el : (dn.map inI).reverse.length = dn.reverse.length := by simp
      rw [el, List.take_length] at hd
      obtain ⟨w2, Tb⟩ := T.ext x2
      have hroot : ∀ y ∈ f.nds, dGet kvs (.inl y.i) = some (y.d M.kind) := fun y hy => hd y (by rw [List.mem_reverse, ← eL]; exact bfsN_mem _ _ (Nat.le_of_eq szn) y hy y (.inl rfl))
      ac_rfl
      bv_omega
      refine attr_go Tb.ins (tb_roots M w2) ?_
      have r62 := Tb.r6
      rw [eroots] at r62
      refine it_lst r62 ?_
      refine lcB_map (S1 := S2) (fun _ => true) (lookM kvs) (fun acc => lst_of (get_push r62 _)) (by rw [List.length_map, List.length_nil]; omega) (fun d hd2 => ?_) ?_
      · obtain ⟨y, hy, rfl⟩ := List.mem_map.mp hd2
        refine ⟨_, rfl, fun acc => ⟨fun K hK => hK, fun _ K hK => ?_⟩⟩
        show wpE _ _ [_, _, _, _, _, some (.int y.i), _] _ _ _
        ac_rfl
        refine ixi_go (get_push gm _) (hroot y hy) ?_
        have : lookM kvs (inI y) = y.d M.kind := by
          show (dGet kvs (.inl y.i)).getD .non = _
          rw [hroot y hy]
          rfl
        rw [this] at hK
        exact hK
      rw [List.nil_append, filter_all, List.map_map]
      have ek : f.nds.map (lookM kvs ∘ inI) = f.dl M.kind := by
        rw [full_d M.kind r.full]
        refine List.map_congr_left fun y hy => ?_
        show (dGet kvs (.inl y.i)).getD .non = _
        rw [hroot y hy]
        rfl
      rw [ek]
      have x3' := x2.trans (Ext.push S2 (Ob.lst (f.dl M.kind)))
      have T3 := Tb.keep (S' := S2 ++ [Ob.lst (f.dl M.kind)]) fun j o _ hh => get_push hh _
      refine tuple_go (last_get _ _) ?_
      ac_rfl
      generalize S2 ++ [Ob.lst (f.dl M.kind)] = S3 at *
      have hq3 := q S3 x3'
      unfold shD at hq3
      bv_omega
      refine attr_go T3.ins (tb_kind M w2) ?_
      refine kd_in (a := .count) (b := .cut) ?_
      rw [show (decide (M.kind = .count) || decide (M.kind = .cut)) = isMany M.kind by cases M.kind <;> rfl]
      cases hm : isMany M.kind with
      | true =>
        rw [hm, if_pos rfl] at hq3
        show wpCs _ k_Table_shape_6a0 _ _ _
        bv_omega
        exact hq3
      | false =>
        rw [hm, if_neg Bool.false_ne_true] at hq3
        ac_rfl
        bv_omega
        refine nenil_pur (dl_dat M.kind f) ?_
        cases hdl : f.dl M.kind with
        | nil =>
          rw [hdl] at hq3
          ac_rfl
          exact hq3
        | cons d l =>
          rw [hdl] at hq3
          ac_rfl
          exact hq3
    · rintro i d hd0 ρ S2 ⟨hi, kvs, x5, rfl, x2, gr, gm, hl, hd⟩ N3 hN3
      rw [← List.map_reverse, List.getElem?_map] at hd0
      cases es : dn.reverse[i]? with
      | none => rw [es] at hd0; cases hd0
      | some x =>
        rw [es] at hd0
        have ed : inI x = d := Option.some.inj hd0
        subst ed
        have hilt : i < dn.length := by
          have := (List.getElem?_eq_some_iff.mp es).1
          simpa using this
        obtain ⟨pre, epre⟩ := rev_split es
        have hxm : x ∈ bfsN f.sz f.nds := by rw [eL, epre]; simp
        obtain ⟨⟨p, hx1⟩, hx2, hx3⟩ := facts x hxm
        have aft := bfsN_after _ _ (Nat.le_of_eq szn) pre x _ (by rw [eL]; exact epre)
        have hxs : x.sz = x.c.sz + 1 := rfl
        refine ⟨_, rfl, ?_⟩
        obtain ⟨w2, Tb⟩ := T.ext x2
        show wpCs _ k_Table_shape_4a0 _ [_, _, _, _, _, some (.int x.i), _] _
        bv_omega
        refine meth_go Tb.ins rfl ?_
        refine tree_okF m (md := S'.length) ⟨w2, Tb⟩ nt hx1 (wf_full nt hx2.2.2) (by omega) gm (fun y hy => hd y (List.mem_reverse.mp (aft y hy))) fun S4 x4 => ?_
        ac_rfl
        refine seti_go (x4.get gm) (by omega) ?_
        refine hN3 _ _ ⟨by omega, _, _, rfl, (x2.trans x4).set (by omega) _, get_set_ne (x4.get gr) (by omega), get_set (x4.get gm), ?_, fun u hu => ?_⟩
        · have := dPut_len2 kvs (.inl x.i) (x.d M.kind)
          omega
        · rw [dGet_put]
          rw [List.take_add_one, es] at hu
          by_cases e3 : u.i = x.i
          · rw [if_pos (by rw [e3])]
            have hum : u ∈ bfsN f.sz f.nds := by
              rw [eL]
              rcases List.mem_append.mp hu with z | z
              · exact List.mem_reverse.mp (List.mem_of_mem_take z)
              · have : u = x := by simpa using z
                rw [this, ← eL]
                exact hxm
            obtain ⟨⟨p', hu1⟩, _, _⟩ := facts u hum
            rw [hu1.unique hx1 e3]
          · rw [if_neg (by simpa using e3)]
            rcases List.mem_append.mp hu with z | z
            · exact hd u z
            · have : u = x := by simpa using z
              rw [this] at e3
              exact absurd rfl e3
    · exact ⟨Nat.zero_le _, [], _, rfl, hx.trans ((Ext.push _ _).trans (Ext.push _ _)), by
        have := last_get (S' ++ [Ob.dct []]) (.lst (dn.map inI).reverse)
        rwa [show (S' ++ [Ob.dct []]).length = S'.length + 1 by simp] at this, get_push (last_get S' _) _, Nat.le_refl _, fun y hy => by cases hy⟩
end Mn

/-! Trees that are tied: plainly. -/
namespace Mn
open PySem
def F.ofL : List Nd → F
  | [] => .nil
  | x :: l => .cons x.k x.i x.m x.c (F.ofL l)
theorem ofL_nds : ∀ l : List Nd, (F.ofL l).nds = l
  | [] => rfl
  | x :: l => by
    show (⟨x.k, x.i, x.m, x.c⟩ : Nd) :: (F.ofL l).nds = _
    rw [ofL_nds l]
theorem ofL_full : ∀ l : List Nd, (F.ofL l).full = true
  | [] => rfl
  | _ :: l => ofL_full l
theorem full_ofL : ∀ {f : F}, f.full = true → F.ofL f.nds = f
  | .nil, _ => rfl
  | .hole _, h => by cases h
  | .cons k i m c r, h => by
    show F.cons k i m c (F.ofL r.nds) = _
    rw [full_ofL (f := r) h]
theorem ofL_tk (l : List Nd) : (F.ofL l).tk = l.map fun x => some x.i := by rw [full_tk (ofL_full l), ofL_nds]
theorem ofL_len : ∀ l : List Nd, (F.ofL l).len = l.length
  | [] => rfl
  | _ :: l => congrArg (· + 1) (ofL_len l)
def allN (l : List Nd) : List Int := (l.map Nd.all).flatten
theorem allN_cons (x : Nd) (l : List Nd) : allN (x :: l) = x.all ++ allN l := rfl
theorem allN_app (l m : List Nd) : allN (l ++ m) = allN l ++ allN m := by unfold allN; rw [List.map_append, List.flatten_append]
theorem ofL_all (l : List Nd) : (F.ofL l).all = allN l := by rw [F.nds_all, ofL_nds]; rfl
theorem ofL_its (l : List Nd) : (F.ofL l).its = itsN l := by rw [its_nds, ofL_nds]
theorem ofL_sz (l : List Nd) : (F.ofL l).sz = szN l := by rw [← F.nds_sz, ofL_nds]
theorem ofL_wf {kd : Kd} : ∀ {l : List Nd}, (∀ x ∈ l, x.wf kd) → (F.ofL l).wf kd
  | [], _ => trivial
  | x :: l, h => ⟨(h x List.mem_cons_self).1, (h x List.mem_cons_self).2.1, (h x List.mem_cons_self).2.2, ofL_wf fun y hy => h y (List.mem_cons_of_mem _ hy)⟩
theorem allN_sz (l : List Nd) : (allN l).length = szN l := by rw [← ofL_all, F.all_len, ofL_sz]
theorem allN_its (l : List Nd) : (itsN l).map Prod.snd = allN l := by rw [← ofL_its, its_all, ofL_all]
theorem mem_allN {l : List Nd} {i : Int} : i ∈ allN l ↔ ∃ x ∈ l, i ∈ x.all := by
  unfold allN
  rw [List.mem_flatten]
  constructor
  · rintro ⟨a, ha, hi⟩
    obtain ⟨x, hx, rfl⟩ := List.mem_map.mp ha
    exact ⟨x, hx, hi⟩
  · rintro ⟨x, hx, hi⟩
    exact ⟨_, List.mem_map.mpr ⟨x, hx, rfl⟩, hi⟩
/-- unmarked -/
def Nd.um (x : Nd) : Nd := { x with m := false }
def Nd.it (x : Nd) : It2 := (x.k, x.i)
/-- the one of the lesser item first -/
def wl (x y : Nd) : Nd × Nd := if itLt x.it y.it = true then (x, y) else (y, x)
def addK (kd : Kd) (w l : Nd) : Nd := ⟨w.k, w.i, w.m, F.ofL (if kd = .pair then l.um :: w.c.nds else w.c.nds ++ [l.um])⟩
def tieN (kd : Kd) (x y : Nd) : Nd := addK kd (wl x y).1 (wl x y).2
theorem wl_cases (x y : Nd) : (wl x y = (x, y) ∧ itLt x.it y.it = true) ∨ (wl x y = (y, x) ∧ itLt x.it y.it = false) := by
  unfold wl
  cases h : itLt x.it y.it with
  | true => exact .inl ⟨rfl, rfl⟩
  | false => exact .inr ⟨rfl, rfl⟩
theorem um_all (x : Nd) : x.um.all = x.all := rfl
theorem um_its (x : Nd) : x.um.its = x.its := rfl
theorem um_wf {kd : Kd} {x : Nd} (h : x.wf kd) : x.um.wf kd := ⟨h.1, fun _ => rfl, h.2.2⟩
theorem addK_its {kd : Kd} (w l : Nd) : (addK kd w l).its.Perm (w.its ++ l.its) := by
  unfold addK Nd.its
  show ((w.k, w.i) :: (F.ofL _).its).Perm _
  rw [ofL_its, its_nds]
  split
  · refine List.Perm.cons _ ?_
    show (l.um.its ++ itsN w.c.nds).Perm _
    rw [um_its]
    exact List.perm_append_comm
  · rw [itsN_app]
    refine List.Perm.cons _ ?_
    show (itsN w.c.nds ++ (l.um.its ++ [])).Perm _
    rw [um_its, List.append_nil]
    exact List.Perm.refl _
theorem addK_wf {kd : Kd} (nt : isTwo kd = false) {w l : Nd} (hw : w.wf kd) (hl : l.wf kd) : (addK kd w l).wf kd := by
  refine ⟨fun z => (by rw [nt] at z; cases z), hw.2.1, ofL_wf fun x hx => ?_⟩
  have hk : ∀ y ∈ w.c.nds, y.wf kd := F.nds_wf hw.2.2
  split at hx
  · rcases List.mem_cons.mp hx with rfl | h
    · exact um_wf hl
    · exact hk x h
  · rcases List.mem_append.mp hx with h | h
    · exact hk x h
    · rw [List.mem_singleton.mp h]
      exact um_wf hl
theorem tieN_its (kd : Kd) (x y : Nd) : (tieN kd x y).its.Perm (x.its ++ y.its) := by
  unfold tieN
  rcases wl_cases x y with ⟨e, _⟩ | ⟨e, _⟩ <;> rw [e]
  · exact addK_its x y
  · exact (addK_its y x).trans List.perm_append_comm
theorem tieN_wf {kd : Kd} (nt : isTwo kd = false) {x y : Nd} (hx : x.wf kd) (hy : y.wf kd) : (tieN kd x y).wf kd := by
  unfold tieN
  rcases wl_cases x y with ⟨e, _⟩ | ⟨e, _⟩ <;> rw [e]
  · exact addK_wf nt hx hy
  · exact addK_wf nt hy hx
theorem its_allN (x : Nd) : x.its.map Prod.snd = x.all := by
  show x.i :: x.c.its.map Prod.snd = _
  rw [its_all]
  rfl
theorem tieN_all (kd : Kd) (x y : Nd) : (tieN kd x y).all.Perm (x.all ++ y.all) := by
  rw [← its_allN, ← its_allN x, ← its_allN y, ← List.map_append]
  exact (tieN_its kd x y).map _
/-! in a table -/
theorem AtF.congr {M M' : TM} : ∀ {f : F} {p : Option Int}, (∀ i ∈ f.all, M'.key i = M.key i ∧ M'.kids i = M.kids i ∧ M'.up i = M.up i ∧ M'.mark i = M.mark i) → AtF M p f → AtF M' p f
  | .nil, _, _, _ => trivial
  | .hole r, _, h, q => AtF.congr (f := r) h q
  | .cons k i m c r, p, h, ⟨q1, q2, q3, q4, q5, q6⟩ => by
    obtain ⟨e1, e2, e3, e4⟩ := h i (by simp [F.all])
    exact ⟨by rw [e1]; exact q1, by rw [e2]; exact q2, by rw [e3]; exact q3, by rw [e4]; exact q4, AtF.congr (fun j hj => h j (by simp [F.all, hj])) q5, AtF.congr (fun j hj => h j (by simp [F.all, hj])) q6⟩
theorem AtN.congr {M M' : TM} {x : Nd} {p : Option Int} (h : ∀ i ∈ x.all, M'.key i = M.key i ∧ M'.kids i = M.kids i ∧ M'.up i = M.up i ∧ M'.mark i = M.mark i) (q : AtN M p x) : AtN M' p x := by
  obtain ⟨q1, q2, q3, q4, q5⟩ := q
  obtain ⟨e1, e2, e3, e4⟩ := h x.i (by simp [Nd.all])
  exact ⟨by rw [e1]; exact q1, by rw [e2]; exact q2, by rw [e3]; exact q3, by rw [e4]; exact q4, AtF.congr (fun j hj => h j (by simp [Nd.all, hj])) q5⟩
/-- l becomes a child of w -/
def TM.tie (M : TM) (w l : Int) (ks : List (Option Int)) : TM := { M with kids := fset M.kids w ks, up := fset M.up l (some w), mark := fset M.mark l false }
theorem tie_same {M : TM} {w l i : Int} {ks : List (Option Int)} (hw : i ≠ w) (hl : i ≠ l) : (M.tie w l ks).key i = M.key i ∧ (M.tie w l ks).kids i = M.kids i ∧ (M.tie w l ks).up i = M.up i ∧ (M.tie w l ks).mark i = M.mark i :=
  ⟨rfl, fset_ne _ _ hw, fset_ne _ _ hl, fset_ne _ _ hl⟩
theorem tie_other {M : TM} {w l : Int} {ks : List (Option Int)} {x : Nd} {p : Option Int} (h : AtN M p x) (hw : w ∉ x.all) (hl : l ∉ x.all) : AtN (M.tie w l ks) p x :=
  h.congr fun i hi => tie_same (fun z => hw (by rw [← z]; exact hi)) (fun z => hl (by rw [← z]; exact hi))
theorem tie_at {M : TM} {kd : Kd} {w l : Nd} {p q : Option Int} (hw : AtN M p w) (hl : AtN M q l) (nd : (w.all ++ l.all).Nodup) (hf : w.c.full = true) : AtN (M.tie w.i l.i ((if kd = .pair then l.um :: w.c.nds else w.c.nds ++ [l.um]).map fun x => some x.i)) p (addK kd w l) := by
  obtain ⟨n1, n2, n3⟩ := List.nodup_append.mp nd
  obtain ⟨n4, n5⟩ := List.nodup_cons.mp (show (w.i :: w.c.all).Nodup from n1)
  obtain ⟨n6, n7⟩ := List.nodup_cons.mp (show (l.i :: l.c.all).Nodup from n2)
  have wl1 : w.i ≠ l.i := fun z => n3 w.i (by simp [Nd.all]) l.i (by simp [Nd.all]) z
  obtain ⟨w1, w2, w3, w4, w5⟩ := hw
  obtain ⟨l1, l2, l3, l4, l5⟩ := hl
  refine ⟨w1, ?_, by show fset M.up l.i _ w.i = _; rw [fset_ne _ _ wl1]; exact w3, by show fset M.mark l.i _ w.i = _; rw [fset_ne _ _ wl1]; exact w4, ?_⟩
  · show fset M.kids w.i _ w.i = _
    rw [fset_same]
    show _ = some (F.ofL _).tk
    rw [ofL_tk]
  · refine atF_iff.mpr fun y hy => ?_
    have hy : y ∈ (if kd = .pair then l.um :: w.c.nds else w.c.nds ++ [l.um]) := by
      have : y ∈ (F.ofL (if kd = .pair then l.um :: w.c.nds else w.c.nds ++ [l.um])).nds := hy
      rwa [ofL_nds] at this
    have hyc : y = l.um ∨ y ∈ w.c.nds := by
      split at hy
      · exact List.mem_cons.mp hy
      · rcases List.mem_append.mp hy with h | h
        · exact .inr h
        · exact .inl (List.mem_singleton.mp h)
    rcases hyc with rfl | hyc
    · refine ⟨l1, by show fset M.kids w.i _ l.i = _; rw [fset_ne _ _ (Ne.symm wl1)]; exact l2, fset_same _ _ _, fset_same _ _ _, ?_⟩
      refine AtF.congr (M := M) (fun i hi => tie_same (fun z => ?_) (fun z => ?_)) l5
      · exact n3 w.i (by simp [Nd.all]) i (by simp [Nd.all]; exact .inr hi) z.symm
      · rw [z] at hi
        exact n6 hi
    · refine tie_other (atF_iff.mp w5 y hyc) (fun z => n4 ?_) (fun z => n3 l.i ?_ l.i (by simp [Nd.all]) rfl)
      · rw [F.nds_all]
        exact List.mem_flatten.mpr ⟨_, List.mem_map.mpr ⟨y, hyc, rfl⟩, z⟩
      · show l.i ∈ w.i :: w.c.all
        refine List.mem_cons_of_mem _ ?_
        rw [F.nds_all]
        exact List.mem_flatten.mpr ⟨_, List.mem_map.mpr ⟨y, hyc, rfl⟩, z⟩
/-- a table, and where its roots lie -/
def TabR (S : Store) (t : Nat) (B : Nat → Prop) (N : Nat) (M : TM) (a6 : Nat) : Prop := ∃ w, TabW S t B N M w ∧ w.a6 = a6
theorem Tab.r {S : Store} {t N : Nat} {B : Nat → Prop} {M : TM} (T : Tab S t B N M) : ∃ a6, TabR S t B N M a6 := by
  obtain ⟨w, T⟩ := T
  exact ⟨w.a6, w, T, rfl⟩
theorem TabR.t {S : Store} {t N a6 : Nat} {B : Nat → Prop} {M : TM} (T : TabR S t B N M a6) : Tab S t B N M := by
  obtain ⟨w, T, _⟩ := T
  exact ⟨w, T⟩
theorem TabR.push {S : Store} {t N a6 : Nat} {B : Nat → Prop} {M : TM} (T : TabR S t B N M a6) (U : List Ob) : TabR (S ++ U) t B N M a6 := by
  obtain ⟨w, T, e⟩ := T
  exact ⟨w, T.keep fun j o _ h => get_push h U, e⟩
theorem TabR.setO {S : Store} {t N n a6 : Nat} {B : Nat → Prop} {M : TM} (T : TabR S t B N M a6) (o : Ob) (h : ¬ B n) : TabR (S.set n o) t B N M a6 := by
  obtain ⟨w, T, e⟩ := T
  exact ⟨w, T.keep fun j o bj hj => get_set_ne hj (fun z => by subst z; exact h bj), e⟩
/-- many loose trees in a table -/
structure Grv (M : TM) (L : List Nd) : Prop where
  at_ : ∀ x ∈ L, AtN M none x
  nd : (allN L).Nodup
  wf : ∀ x ∈ L, x.wf M.kind
theorem Grv.perm {M : TM} {L L' : List Nd} (g : Grv M L) (p : L.Perm L') : Grv M L' := ⟨fun x hx => g.at_ x (p.symm.subset hx), by
  have : (allN L).Perm (allN L') := (p.map Nd.all).flatten
  exact this.nodup_iff.mp g.nd, fun x hx => g.wf x (p.symm.subset hx)⟩
theorem Grv.tail {M : TM} {x : Nd} {L : List Nd} (g : Grv M (x :: L)) : Grv M L := ⟨fun y hy => g.at_ y (List.mem_cons_of_mem _ hy), (List.nodup_append.mp (show (x.all ++ allN L).Nodup from g.nd)).2.1, fun y hy => g.wf y (List.mem_cons_of_mem _ hy)⟩
end Mn

/-! Tying, freeing, as the program does it. -/
namespace Mn
open PySem
theorem insert0_go {S : Store} {n : Nat} {l : List D} {d : D} {Q : DK} (h : S[n]? = some (.lst l)) (hl : l.length < 1000000) (q : Q .non (S.set n (.lst (d :: l)))) : bm .insert (.ref n) [.int 0, d] S Q := by
  show (match S[n]? with | some (.lst l) => l.length < lim ∧ (0 : Int) ≤ 0 ∧ (0 : Int) ≤ 1000000 ∧ Q .non (S.set n (.lst (l.take (0 : Int).toNat ++ [d] ++ l.drop (0 : Int).toNat))) | _ => False)
  rw [h]
  exact ⟨hl, by decide, by decide, q⟩
theorem mark_len {S : Store} {t N : Nat} {B : Nat → Prop} {M : TM} {w : TW} (T : TabW S t B N M w) {i : Int} (h : M.mark i ≠ none) (v : Bool) : (dPut w.k4 (.inl i) (.bl v)).length ≤ N := by
  have hs : (dGet w.k4 (.inl i)).isSome = true := by
    rw [T.g4]
    cases hr : M.mark i with
    | none => exact absurd hr h
    | some _ => rfl
  rw [dPut_same hs]
  exact T.len.2.2.2.1
theorem tie_ok (m : Nat) {S : Store} {t N : Nat} {B : Nat → Prop} {M : TM} {x y : Nd} {p p' : Option Int} {a6 : Nat} {Q : DK} {X : XK} (T : TabR S t B N M a6) (nt : isTwo M.kind = false) (hx : AtN M p x) (hy : AtN M p' y) (wx : x.wf M.kind) (wy : y.wf M.kind) (sx : x.sz ≤ 5000) (sy : y.sz ≤ 5000)
    (q : ∀ S', TabR S' t B N (M.tie (wl x y).1.i (wl x y).2.i ((if M.kind = .pair then (wl x y).2.um :: (wl x y).1.c.nds else (wl x y).1.c.nds ++ [(wl x y).2.um]).map fun x => some x.i)) a6 → Step B B S S' → Q (.int (wl x y).1.i) S') : callN PP (m + 4) f_tie [.ref t, .int x.i, .int y.i] S Q X := by
  obtain ⟨w, T, h6⟩ := T
  refine enter rfl rfl ?_
  show wpCs _ k_tie_0 _ [some (.ref t), some (.int x.i), some (.int y.i), none, none] S
  bv_omega
  refine meth_go T.ins rfl ?_
  refine sorted_two_ok m ⟨w, T⟩ hx.1 hy.1 ?_
  -- from the two in order on
  have rest : ∀ (a b : Nd) (pa pb : Option Int), wl x y = (a, b) → AtN M pa a → AtN M pb b → a.wf M.kind → a.sz ≤ 5000 → wpCs (callN PP (m + 3)) k_tie_1 (rtEnds Q X) [some (.ref t), some (.int x.i), some (.int y.i), some (.int a.i), some (.int b.i)] S := by
    intro a b pa pb e ha hb wa sa
    rw [e] at q
    have hk := ha.2.1
    rw [full_tk (wf_full nt wa.2.2)] at hk
    obtain ⟨bb, e1, e2, e3, e4⟩ := kids_at T hk
    have hnl := nds_len a.c
    have has : a.sz = a.c.sz + 1 := rfl
    -- behind the list of children
    have rest2 : ∀ ks : List (Option Int), ks = (if M.kind = .pair then b.um :: a.c.nds else a.c.nds ++ [b.um]).map (fun x => some x.i) → wpCs (callN PP (m + 3)) k_tie_2 (rtEnds Q X) [some (.ref t), some (.int x.i), some (.int y.i), some (.int a.i), some (.int b.i)] (S.set bb (.lst (ks.map oI))) := by
      intro ks hks
      have T2 := T.mod2 a.i ks e1
      have s2 := Step.set (B := B) (S := S) (.lst (ks.map oI)) e4
      generalize S.set bb (.lst (ks.map oI)) = S2 at T2 s2 ⊢
      bv_omega
      refine attr_go T2.ins (tb_ups _ _) ?_
      refine seti_go T2.d3 (by have := T2.len.2.2.1; have := T2.cap; omega) ?_
      have T3 := T2.set3 (N' := N) b.i (some a.i) (Nat.le_refl _) (up_same T2 (by show M.up b.i ≠ none; rw [hb.2.2.1]; simp) _) T2.cap
      have s3 := s2.trans (Step.set (B := B) (S := S2) (.dct (dPut w.k3 (.inl b.i) (oI (some a.i)))) T2.own.2.2.2.1)
      show wpCs _ k_tie_3 _ _ (S2.set w.a3 (.dct (dPut w.k3 (.inl b.i) (oI (some a.i)))))
      generalize S2.set w.a3 (.dct (dPut w.k3 (.inl b.i) (oI (some a.i)))) = S3 at T3 s3 ⊢
      bv_omega
      refine attr_go T3.ins (tb_marks _ _) ?_
      refine seti_go T3.d4 (by have := T3.len.2.2.2.1; have := T3.cap; omega) ?_
      have T4 := T3.set4 (N' := N) b.i false (Nat.le_refl _) (mark_len T3 (by show M.mark b.i ≠ none; rw [hb.2.2.2.1]; simp) _) T3.cap
      have s4 := s3.trans (Step.set (B := B) (S := S3) (.dct (dPut w.k4 (.inl b.i) (.bl false))) T3.own.2.2.2.2.1)
      bv_omega
      rw [hks] at T4
      exact q _ ⟨_, T4, h6⟩ s4
    bv_omega
    refine attr_go T.ins (tb_kind _ _) ?_
    refine kd_eq (b := .pair) ?_
    have em : (a.c.nds.map fun y => some y.i).map oI = a.c.nds.map inI := by rw [List.map_map]; rfl
    rw [em] at e2
    by_cases hp : M.kind = .pair
    · rw [decide_eq_true hp]
      show wpCs _ k_tie_1a0 _ _ _
      bv_omega
      refine attr_go T.ins (tb_kids _ _) ?_
      refine ixi_go T.d2 e1 ?_
      refine ⟨recv_l e2, insert0_go e2 (by rw [List.length_map]; omega) ?_⟩
      ac_rfl
      have := rest2 (some b.i :: a.c.nds.map fun y => some y.i) (by rw [if_pos hp]; rfl)
      rw [List.map_cons, em] at this
      exact this
    · rw [decide_eq_false hp]
      show wpCs _ k_tie_1b0 _ _ _
      bv_omega
      refine attr_go T.ins (tb_kids _ _) ?_
      refine ixi_go T.d2 e1 ?_
      refine ⟨recv_l e2, append_go e2 (by rw [List.length_map]; omega) ?_⟩
      ac_rfl
      have := rest2 ((a.c.nds.map fun y => some y.i) ++ [some b.i]) (by rw [if_neg hp, List.map_append]; rfl)
      rw [List.map_append, em] at this
      exact this
  rcases wl_cases x y with ⟨e, hlt⟩ | ⟨e, hlt⟩
  · rw [show itLt (x.k, x.i) (y.k, y.i) = true from hlt, if_pos rfl]
    exact rest x y p p' e hx hy wx sx
  · rw [show itLt (x.k, x.i) (y.k, y.i) = false from hlt, if_neg Bool.false_ne_true]
    exact rest y x p' p e hy hx wy sy
/-- of many loose trees two are tied -/
theorem Grv.tie {M : TM} {x y : Nd} {L : List Nd} (nt : isTwo M.kind = false) (g : Grv M (x :: y :: L)) : Grv (M.tie (wl x y).1.i (wl x y).2.i ((if M.kind = .pair then (wl x y).2.um :: (wl x y).1.c.nds else (wl x y).1.c.nds ++ [(wl x y).2.um]).map fun x => some x.i)) (tieN M.kind x y :: L) := by
  have nd := g.nd
  rw [allN_cons, allN_cons] at nd
  obtain ⟨n1, n2, n3⟩ := List.nodup_append.mp nd
  obtain ⟨n4, n5, n6⟩ := List.nodup_append.mp n2
  have nxy : (x.all ++ y.all).Nodup := List.nodup_append.mpr ⟨n1, n4, fun a ha b hb => n3 a ha b (List.mem_append_left _ hb)⟩
  have hx := g.at_ x (by simp)
  have hy := g.at_ y (by simp)
  have wx := g.wf x (by simp)
  have wy := g.wf y (by simp)
  have dis : ∀ z ∈ L, x.i ∉ z.all ∧ y.i ∉ z.all := fun z hz => ⟨fun h => n3 x.i (by simp [Nd.all]) x.i (List.mem_append_right _ (mem_allN.mpr ⟨z, hz, h⟩)) rfl, fun h => n6 y.i (by simp [Nd.all]) y.i (mem_allN.mpr ⟨z, hz, h⟩) rfl⟩
  refine ⟨fun z hz => ?_, ?_, fun z hz => ?_⟩
  · rcases List.mem_cons.mp hz with rfl | hz
    · unfold tieN
      rcases wl_cases x y with ⟨e, _⟩ | ⟨e, _⟩ <;> rw [e]
      · exact tie_at hx hy nxy (wf_full nt wx.2.2)
      · exact tie_at hy hx (List.perm_append_comm.nodup_iff.mp nxy) (wf_full nt wy.2.2)
    · obtain ⟨d1, d2⟩ := dis z hz
      have h0 := g.at_ z (List.mem_cons_of_mem _ (List.mem_cons_of_mem _ hz))
      rcases wl_cases x y with ⟨e, _⟩ | ⟨e, _⟩ <;> rw [e]
      · exact tie_other h0 d1 d2
      · exact tie_other h0 d2 d1
  · rw [allN_cons]
    refine (((tieN_all M.kind x y).append_right _).nodup_iff).mpr ?_
    rw [List.append_assoc]
    exact nd
  · rcases List.mem_cons.mp hz with rfl | hz
    · exact tieN_wf nt wx wy
    · exact g.wf z (List.mem_cons_of_mem _ (List.mem_cons_of_mem _ hz))
/-- no more owned -/
theorem TabW.less {S : Store} {t N b : Nat} {B : Nat → Prop} {M : TM} {w : TW} (T : TabW S t B N M w) (hb : ∀ j, dGet w.k2 (.inl j) ≠ some (.ref b)) (h6 : b ≠ w.a6) {l : List D} (hl : S[b]? = some (.lst l)) : TabW S t (fun j => B j ∧ j ≠ b) N M w := by
  obtain ⟨o1, o2, o3, o4, o5, o6, o7⟩ := T.own
  refine ⟨T.ins, T.d1, T.d2, T.d3, T.d4, T.d5, T.r6, T.g1, T.g3, T.g4, T.g5, fun k => ?_, T.inj, T.nd, ⟨⟨o1, ne_obj T.ins hl (by simp)⟩, ⟨o2, ne_obj T.d1 hl (by simp)⟩, ⟨o3, ne_obj T.d2 hl (by simp)⟩, ⟨o4, ne_obj T.d3 hl (by simp)⟩, ⟨o5, ne_obj T.d4 hl (by simp)⟩, ⟨o6, ne_obj T.d5 hl (by simp)⟩, ⟨o7, Ne.symm h6⟩⟩, fun j hj => T.bnd j hj.1, T.len, T.cap, T.ki⟩
  rcases T.g2 k with q | ⟨l', b', q1, q2, q3, q4, q5⟩
  · exact .inl q
  · exact .inr ⟨l', b', q1, q2, q3, q4, q5, fun z => hb k (by rw [q2, z])⟩
/-- the children of a tree stand in nothing -/
def TM.free1 (M : TM) (i : Int) : TM := { M with up := fset M.up i none, mark := fset M.mark i false }
def TM.frees (M : TM) (l : List Nd) : TM := l.foldl (fun M y => M.free1 y.i) M
theorem frees_app (M : TM) (l : List Nd) (y : Nd) : M.frees (l ++ [y]) = (M.frees l).free1 y.i := by unfold TM.frees; rw [List.foldl_append]; rfl
theorem frees_base (l : List Nd) : ∀ M : TM, (M.frees l).kind = M.kind ∧ (M.frees l).key = M.key ∧ (M.frees l).kids = M.kids ∧ (M.frees l).rank = M.rank ∧ (M.frees l).roots = M.roots := by
  induction l with
  | nil => exact fun M => ⟨rfl, rfl, rfl, rfl, rfl⟩
  | cons y l ih =>
    intro M
    exact ih (M.free1 y.i)
theorem frees_out {i : Int} : ∀ (l : List Nd) (M : TM), (∀ y ∈ l, y.i ≠ i) → (M.frees l).up i = M.up i ∧ (M.frees l).mark i = M.mark i
  | [], M, _ => ⟨rfl, rfl⟩
  | y :: l, M, h => by
    obtain ⟨h1, h2⟩ := frees_out l (M.free1 y.i) fun z hz => h z (List.mem_cons_of_mem _ hz)
    have hy := h y List.mem_cons_self
    exact ⟨h1.trans (fset_ne _ _ (Ne.symm hy)), h2.trans (fset_ne _ _ (Ne.symm hy))⟩
theorem frees_in {i : Int} : ∀ (l : List Nd) (M : TM), (∃ y ∈ l, y.i = i) → (M.frees l).up i = some none ∧ (M.frees l).mark i = some false
  | [], M, ⟨y, hy, _⟩ => nomatch hy
  | y :: l, M, h => by
    by_cases h2 : ∃ z ∈ l, z.i = i
    · exact frees_in l (M.free1 y.i) h2
    · have h3 : ∀ z ∈ l, z.i ≠ i := fun z hz e => h2 ⟨z, hz, e⟩
      obtain ⟨h4, h5⟩ := frees_out l (M.free1 y.i) h3
      have hy : y.i = i := by
        obtain ⟨z, hz, e⟩ := h
        rcases List.mem_cons.mp hz with rfl | hz
        · exact e
        · exact absurd e (h3 z hz)
      subst hy
      exact ⟨h4.trans (fset_same _ _ _), h5.trans (fset_same _ _ _)⟩
theorem freed_ok (m : Nat) {S : Store} {t N : Nat} {B : Nat → Prop} {M : TM} {x : Nd} {p : Option Int} {a6 : Nat} {Q : DK} {X : XK} (T : TabR S t B N M a6) (nt : isTwo M.kind = false) (hx : AtN M p x) (wx : x.wf M.kind) (sx : x.sz ≤ 5000)
    (q : ∀ S' B' ra, TabR S' t B' N (({ M with kids := fset M.kids x.i [] } : TM).frees x.c.nds) a6 → Step B B' S S' → ¬ B' ra → S'[ra]? = some (.lst (x.c.nds.map inI)) → Q (.ref ra) S') : callN PP (m + 1) f_freed [.ref t, .int x.i] S Q X := by
  obtain ⟨w, T, h6⟩ := T
  have hk := hx.2.1
  rw [full_tk (wf_full nt wx.2.2)] at hk
  obtain ⟨bb, e1, e2, e3, e4⟩ := kids_at T hk
  have em : (x.c.nds.map fun y => some y.i).map oI = x.c.nds.map inI := by rw [List.map_map]; rfl
  rw [em] at e2
  have hnl := nds_len x.c
  have hxs : x.sz = x.c.sz + 1 := rfl
  refine enter rfl rfl ?_
  show wpCs _ k_freed_0 _ [some (.ref t), some (.int x.i), none, none] S
  bv_omega
  refine attr_go T.ins (tb_kids _ _) ?_
  refine ixi_go T.d2 e1 ?_
  ac_rfl
  bv_omega
  have T1 := new_own T (.lst ([] : List D))
  have s1 := new_step (B := B) (S := S) (.lst ([] : List D))
  obtain ⟨nn1, nn2⟩ := new_no T
  have hb1 := last_get S (.lst ([] : List D))
  have e21 := get_push e2 [.lst ([] : List D)]
  have hlt := get_lt e2
  generalize S ++ [.lst ([] : List D)] = S1 at T1 s1 hb1 e21 ⊢
  generalize S.length = na at T1 s1 hb1 nn1 nn2 hlt ⊢
  refine attr_go T1.ins (tb_kids _ _) ?_
  refine seti_go T1.d2 (by have := T1.len.2.1; have := T1.cap; omega) ?_
  have T2 := T1.set2 (N' := N) (b := na) x.i [] hb1 nn2 (.inr rfl) nn1 (Nat.le_refl _) (kids_same T1 hk _) T1.cap
  have s2 := s1.trans (Step.set (B := fun j => B j ∨ j = na) (S := S1) (.dct (dPut w.k2 (.inl x.i) (.ref na))) T1.own.2.2.1)
  have e22 : (S1.set w.a2 (.dct (dPut w.k2 (.inl x.i) (.ref na))))[bb]? = _ := get_set_ne e21 (ne_obj T1.d2 e21 (by simp))
  have nob : ∀ j, dGet (dPut w.k2 (.inl x.i) (.ref na)) (.inl j) ≠ some (.ref bb) := fun j z => by
    rw [dGet_put] at z
    by_cases ej : j = x.i
    · rw [if_pos (by rw [ej])] at z
      cases z
      omega
    · rw [if_neg (by simpa using ej)] at z
      exact ej (T.inj j x.i bb z e1)
  have T3 := T2.less (b := bb) nob e3 e22
  have s3 : Step B (fun j => (B j ∨ j = na) ∧ j ≠ bb) S (S1.set w.a2 (.dct (dPut w.k2 (.inl x.i) (.ref na)))) := ⟨fun j h => s2.own j h.1, s2.len, s2.frm⟩
  generalize S1.set w.a2 (.dct (dPut w.k2 (.inl x.i) (.ref na))) = S3 at T3 s3 e22 ⊢
  generalize hB3 : (fun j => (B j ∨ j = na) ∧ j ≠ bb) = B3 at T3 s3
  have nb3 : ¬ B3 bb := by rw [← hB3]; exact fun z => z.2 rfl
  generalize hM3 : ({ M with kids := fset M.kids x.i [] } : TM) = M3 at T3 q
  have kidup : ∀ y ∈ x.c.nds, M3.up y.i ≠ none ∧ M3.mark y.i ≠ none := fun y hy => by
    obtain ⟨_, _, a3, a4, _⟩ := atF_iff.mp hx.2.2.2.2 y hy
    rw [← hM3]
    exact ⟨by show M.up y.i ≠ none; rw [a3]; simp, by show M.mark y.i ≠ none; rw [a4]; simp⟩
  ac_rfl
  bv_omega
  refine it_lst e22 ?_
  refine forB_at _ (fun j ρ S' => ∃ y3, ρ = [some (.ref t), some (.int x.i), some (.ref bb), y3] ∧ TabR S' t B3 N (M3.frees (x.c.nds.take j)) a6 ∧ Step B3 B3 S3 S') ?_ ?_ ?_ ⟨_, rfl, ⟨_, T3, h6⟩, Step.refl _ _⟩
  · rintro j ρ S' ⟨y3, rfl, T4, s4⟩
    exact lst_of (s4.get e22 nb3).1
  · rintro ρ S' ⟨y3, rfl, T4, s4⟩
    rw [List.length_map, List.take_length] at T4
    ac_rfl
    bv_omega
    exact q S' B3 bb T4 (s3.trans s4) nb3 (s4.get e22 nb3).1
  · rintro j d hd ρ S' ⟨y3, rfl, T4, s4⟩ N2 hN2
    rw [List.getElem?_map] at hd
    cases ej : x.c.nds[j]? with
    | none => rw [ej] at hd; cases hd
    | some y =>
      rw [ej] at hd
      cases hd
      have hy := List.mem_of_getElem? ej
      obtain ⟨k1, k2⟩ := kidup y hy
      have un : (M3.frees (x.c.nds.take j)).up y.i ≠ none := by
        by_cases h2 : ∃ z ∈ x.c.nds.take j, z.i = y.i
        · rw [(frees_in _ M3 h2).1]
          simp
        · rw [(frees_out _ M3 fun z hz e => h2 ⟨z, hz, e⟩).1]
          exact k1
      have mn : (M3.frees (x.c.nds.take j)).mark y.i ≠ none := by
        by_cases h2 : ∃ z ∈ x.c.nds.take j, z.i = y.i
        · rw [(frees_in _ M3 h2).2]
          simp
        · rw [(frees_out _ M3 fun z hz e => h2 ⟨z, hz, e⟩).2]
          exact k2
      obtain ⟨w4, T4, h64⟩ := T4
      refine ⟨_, rfl, ?_⟩
      show wpCs _ k_freed_2a0 _ [_, _, _, some (.int y.i)] _
      bv_omega
      refine attr_go T4.ins (tb_ups _ _) ?_
      refine seti_go T4.d3 (by have := T4.len.2.2.1; have := T4.cap; omega) ?_
      have T5 := T4.set3 (N' := N) y.i none (Nat.le_refl _) (up_same T4 un _) T4.cap
      have s5 := s4.trans (Step.set (B := B3) (S := S') (.dct (dPut w4.k3 (.inl y.i) (oI none))) T4.own.2.2.2.1)
      show wpCs _ k_freed_2a1 _ _ (S'.set w4.a3 (.dct (dPut w4.k3 (.inl y.i) (oI none))))
      generalize S'.set w4.a3 (.dct (dPut w4.k3 (.inl y.i) (oI none))) = S5 at T5 s5 ⊢
      bv_omega
      refine attr_go T5.ins (tb_marks _ _) ?_
      refine seti_go T5.d4 (by have := T5.len.2.2.2.1; have := T5.cap; omega) ?_
      have T6 := T5.set4 (N' := N) y.i false (Nat.le_refl _) (mark_len T5 mn _) T5.cap
      have s6 := s5.trans (Step.set (B := B3) (S := S5) (.dct (dPut w4.k4 (.inl y.i) (.bl false))) T5.own.2.2.2.2.1)
      ac_rfl
      refine hN2 _ _ ⟨_, rfl, ?_, s6⟩
      rw [List.take_add_one, ej]
      show TabR _ _ _ _ (M3.frees (x.c.nds.take j ++ [y])) _
      rw [frees_app]
      exact ⟨_, T6, h64⟩
end Mn

/-! Where a tree stands; loosening. -/
namespace Mn
open PySem
structure RFr where
  k : Int
  j : Int
  m : Bool
  pre : List Nd
  post : List Nd
def RFr.plug (f : RFr) (x : Nd) : Nd := ⟨f.k, f.j, f.m, F.ofL (f.pre ++ x :: f.post)⟩
/-- without the tree -/
def RFr.cutN (f : RFr) : Nd := ⟨f.k, f.j, f.m, F.ofL (f.pre ++ f.post)⟩
def plugR : List RFr → Nd → Nd
  | [], x => x
  | f :: fs, x => plugR fs (f.plug x)
def rfT : List RFr → List Int
  | [] => []
  | f :: fs => f.j :: (allN f.pre ++ allN f.post ++ rfT fs)
def rfI : List RFr → List It2
  | [] => []
  | f :: fs => (f.k, f.j) :: (itsN f.pre ++ itsN f.post ++ rfI fs)
def rfUp (p : Option Int) : List RFr → Option Int
  | [] => p
  | f :: _ => some f.j
theorem rplug_its (f : RFr) (x : Nd) : (f.plug x).its.Perm ((f.k, f.j) :: (x.its ++ (itsN f.pre ++ itsN f.post))) := by
  unfold RFr.plug Nd.its
  show ((f.k, f.j) :: (F.ofL (f.pre ++ x :: f.post)).its).Perm _
  rw [ofL_its, itsN_app]
  refine List.Perm.cons _ ?_
  show (itsN f.pre ++ (x.its ++ itsN f.post)).Perm (x.its ++ (itsN f.pre ++ itsN f.post))
  rw [← List.append_assoc, ← List.append_assoc]
  exact List.Perm.append_right _ List.perm_append_comm
theorem plugR_its : ∀ (fs : List RFr) (x : Nd), (plugR fs x).its.Perm (x.its ++ rfI fs)
  | [], x => by
    show x.its.Perm (x.its ++ [])
    rw [List.append_nil]
  | f :: fs, x => by
    refine (plugR_its fs (f.plug x)).trans ?_
    refine ((rplug_its f x).append_right _).trans ?_
    show ((f.k, f.j) :: (x.its ++ (itsN f.pre ++ itsN f.post)) ++ rfI fs).Perm (x.its ++ ((f.k, f.j) :: (itsN f.pre ++ itsN f.post ++ rfI fs)))
    refine List.Perm.trans ?_ List.perm_middle.symm
    simp
theorem rfI_T : ∀ fs : List RFr, (rfI fs).map Prod.snd = rfT fs
  | [] => rfl
  | f :: fs => by
    show f.j :: ((itsN f.pre ++ itsN f.post ++ rfI fs).map Prod.snd) = _
    rw [List.map_append, List.map_append, allN_its, allN_its, rfI_T fs]
    rfl
theorem plugR_all (fs : List RFr) (x : Nd) : (plugR fs x).all.Perm (x.all ++ rfT fs) := by
  rw [← its_allN, ← its_allN x, ← rfI_T, ← List.map_append]
  exact (plugR_its fs x).map _
/-- alike at a ticket -/
def Same (M M' : TM) (i : Int) : Prop := M'.key i = M.key i ∧ M'.kids i = M.kids i ∧ M'.up i = M.up i ∧ M'.mark i = M.mark i
theorem at_plugR {M : TM} {p : Option Int} : ∀ (fs : List RFr) {x : Nd}, AtN M p (plugR fs x) → AtN M (rfUp p fs) x ∧ ∀ (M' : TM) (x' : Nd), x'.i = x.i → (∀ i ∈ rfT fs, Same M M' i) → AtN M' (rfUp p fs) x' → AtN M' p (plugR fs x')
  | [], x, h => ⟨h, fun M' x' _ _ h' => h'⟩
  | f :: fs, x, h => by
    obtain ⟨h1, h2⟩ := at_plugR fs (x := f.plug x) h
    obtain ⟨a1, a2, a3, a4, a5⟩ := h1
    have hk := atF_iff.mp a5
    have hn : (f.plug x).c.nds = f.pre ++ x :: f.post := ofL_nds _
    rw [hn] at hk
    refine ⟨hk x (by simp), fun M' x' e hs hx' => ?_⟩
    refine h2 M' (f.plug x') rfl (fun i hi => hs i (by simp [rfT, hi])) ?_
    obtain ⟨s1, s2, s3, s4⟩ := hs f.j (by simp [rfT])
    refine ⟨by show M'.key f.j = _; rw [s1]; exact a1, ?_, by show M'.up f.j = _; rw [s3]; exact a3, by show M'.mark f.j = _; rw [s4]; exact a4, ?_⟩
    · show M'.kids f.j = some (F.ofL (f.pre ++ x' :: f.post)).tk
      rw [s2, show M.kids f.j = some (F.ofL (f.pre ++ x :: f.post)).tk from a2, ofL_tk, ofL_tk, List.map_append, List.map_append, List.map_cons, List.map_cons, e]
    · refine atF_iff.mpr fun y hy => ?_
      have hy : y ∈ (F.ofL (f.pre ++ x' :: f.post)).nds := hy
      rw [ofL_nds] at hy
      have same : ∀ y ∈ f.pre ++ f.post, AtN M (some f.j) y → AtN M' (some f.j) y := fun y hy h => h.congr fun i hi => hs i (by
        rcases List.mem_append.mp hy with z | z
        · simp [rfT]
          exact .inr (.inl (mem_allN.mpr ⟨y, z, hi⟩))
        · simp [rfT]
          exact .inr (.inr (.inl (mem_allN.mpr ⟨y, z, hi⟩))))
      rcases List.mem_append.mp hy with z | z
      · exact same y (List.mem_append_left _ z) (hk y (by simp [z]))
      · rcases List.mem_cons.mp z with z | z
        · rw [z]
          exact hx'
        · exact same y (List.mem_append_right _ z) (hk y (by simp [z]))
theorem erase_mapN {α β : Type} (f : α → β) : ∀ (l : List α) (j : Nat), (l.map f).eraseIdx j = (l.eraseIdx j).map f
  | [], _ => rfl
  | _ :: _, 0 => rfl
  | a :: l, j + 1 => congrArg (f a :: ·) (erase_mapN f l j)
theorem remove_go {S : Store} {n : Nat} {ks : List Int} {j : Nat} {i : Int} {Q : DK} (h : S[n]? = some (.lst (ks.map D.int))) (hj : idx? (.int i) (ks.map D.int) = some j) (q : Q .non (S.set n (.lst ((ks.eraseIdx j).map D.int)))) : bm .remove (.ref n) [.int i] S Q := by
  show (match S[n]? with | some (.lst l) => (match idx? (.int i) l with | some j => (ints? l).isSome = true ∧ (ints? [D.int i]).isSome = true ∧ Q .non (S.set n (.lst (l.eraseIdx j))) | none => False) | _ => False)
  rw [h]
  dsimp only
  rw [hj]
  refine ⟨by rw [intsF_map]; rfl, rfl, ?_⟩
  rw [erase_mapN]
  exact q
theorem idx_first {i : Int} : ∀ (pre post : List Int), i ∉ pre → idx? (.int i) ((pre ++ i :: post).map D.int) = some pre.length
  | [], post, _ => by
    show (if D.sEq (.int i) (.int i) = true then some 0 else _) = _
    rw [if_pos (by simp [D.sEq])]
    rfl
  | a :: pre, post, h => by
    show (if D.sEq (.int a) (.int i) = true then some 0 else (idx? (.int i) ((pre ++ i :: post).map D.int)).map (· + 1)) = _
    have h1 : a ≠ i := fun z => h (by simp [z])
    rw [if_neg (by simp [D.sEq, h1]), idx_first pre post fun z => h (List.mem_cons_of_mem _ z)]
    rfl
/-- a tree stands no more where it stood -/
def TM.loose (M : TM) (f : RFr) (i : Int) : TM := { M with kids := fset M.kids f.j ((f.pre ++ f.post).map fun x => some x.i), up := fset M.up i none }
theorem loosen_ok (m : Nat) {S : Store} {t N : Nat} {B : Nat → Prop} {M : TM} {x : Nd} {f : RFr} {fs : List RFr} {p : Option Int} {Q : DK} {X : XK} (T : Tab S t B N M) (hx : AtN M p (plugR (f :: fs) x)) (nd : (plugR (f :: fs) x).all.Nodup)
    (q : ∀ S', Tab S' t B N (M.loose f x.i) → Step B B S S' → Q (.int f.j) S') : callN PP (m + 1) f_loosen [.ref t, .int x.i] S Q X := by
  obtain ⟨w, T⟩ := T
  obtain ⟨h1, _⟩ := at_plugR fs (x := f.plug x) hx
  obtain ⟨h2, _⟩ := at_plugR (f :: fs) hx
  have hk : M.kids f.j = some ((f.pre ++ x :: f.post).map fun y => some y.i) := by
    have := h1.2.1
    rw [← ofL_tk]
    exact this
  have hup : M.up x.i = some (some f.j) := h2.2.2.1
  obtain ⟨bb, e1, e2, e3, e4⟩ := kids_at T hk
  have em : ((f.pre ++ x :: f.post).map fun y => some y.i).map oI = ((f.pre ++ x :: f.post).map Nd.i).map D.int := by rw [List.map_map, List.map_map]; rfl
  rw [em] at e2
  have hpre : x.i ∉ f.pre.map Nd.i := fun z => by
    have nd2 := (plugR_all (f :: fs) x).nodup_iff.mp nd
    obtain ⟨_, _, n3⟩ := List.nodup_append.mp nd2
    obtain ⟨y, hy, ey⟩ := List.mem_map.mp z
    exact n3 x.i (by simp [Nd.all]) y.i (by simp [rfT]; exact .inr (.inl (mem_allN.mpr ⟨y, hy, by simp [Nd.all]⟩))) ey.symm
  refine enter rfl rfl ?_
  show wpCs _ k_loosen_0 _ [some (.ref t), some (.int x.i), none] S
  bv_omega
  refine attr_go T.ins (tb_ups _ _) ?_
  refine ixi_go T.d3 (T.g3.some hup) ?_
  show wpCs _ k_loosen_1 _ [some (.ref t), some (.int x.i), some (.int f.j)] S
  bv_omega
  refine attr_go T.ins (tb_kids _ _) ?_
  refine ixi_go T.d2 e1 ?_
  refine ⟨recv_l e2, ?_⟩
  have ei := idx_first (f.pre.map Nd.i) (f.post.map Nd.i) hpre
  have em2 : (f.pre ++ x :: f.post).map Nd.i = f.pre.map Nd.i ++ x.i :: f.post.map Nd.i := by rw [List.map_append, List.map_cons]
  rw [em2] at e2
  refine remove_go e2 ei ?_
  have ee : (f.pre.map Nd.i ++ x.i :: f.post.map Nd.i).eraseIdx (f.pre.map Nd.i).length = (f.pre ++ f.post).map Nd.i := by
    rw [List.eraseIdx_append_of_length_le (Nat.le_refl _), Nat.sub_self, List.map_append]
    rfl
  rw [ee]
  have eo : ((f.pre ++ f.post).map Nd.i).map D.int = ((f.pre ++ f.post).map fun y => some y.i).map oI := by rw [List.map_map, List.map_map]; rfl
  rw [eo]
  have T2 := T.mod2 f.j ((f.pre ++ f.post).map fun y => some y.i) e1
  have s2 := Step.set (B := B) (S := S) (.lst (((f.pre ++ f.post).map fun y => some y.i).map oI)) e4
  generalize S.set bb (.lst (((f.pre ++ f.post).map fun y => some y.i).map oI)) = S2 at T2 s2 ⊢
  ac_rfl
  bv_omega
  refine attr_go T2.ins (tb_ups _ _) ?_
  refine seti_go T2.d3 (by have := T2.len.2.2.1; have := T2.cap; omega) ?_
  have T3 := T2.set3 (N' := N) x.i none (Nat.le_refl _) (up_same T2 (by show M.up x.i ≠ none; rw [hup]; simp) _) T2.cap
  have s3 := s2.trans (Step.set (B := B) (S := S2) (.dct (dPut w.k3 (.inl x.i) (oI none))) T2.own.2.2.2.1)
  bv_omega
  exact q _ ⟨_, T3⟩ s3
theorem loose_at {M : TM} {x : Nd} {f : RFr} {fs : List RFr} {p : Option Int} (hx : AtN M p (plugR (f :: fs) x)) (nd : (plugR (f :: fs) x).all.Nodup) : AtN (M.loose f x.i) none x ∧ AtN (M.loose f x.i) p (plugR fs f.cutN) := by
  obtain ⟨h1, h2⟩ := at_plugR fs (x := f.plug x) hx
  obtain ⟨h3, _⟩ := at_plugR (f :: fs) hx
  have nd2 := (plugR_all (f :: fs) x).nodup_iff.mp nd
  obtain ⟨n1, n2, n3⟩ := List.nodup_append.mp nd2
  obtain ⟨n4, n5⟩ := List.nodup_cons.mp (show (f.j :: (allN f.pre ++ allN f.post ++ rfT fs)).Nodup from n2)
  have xj : x.i ≠ f.j := fun z => n3 x.i (by simp [Nd.all]) f.j (by simp [rfT]) z
  have same : ∀ i, i ≠ x.i → i ≠ f.j → Same M (M.loose f x.i) i := fun i h1 h2 => ⟨rfl, fset_ne _ _ h2, fset_ne _ _ h1, rfl⟩
  obtain ⟨a1, a2, a3, a4, a5⟩ := h3
  constructor
  · refine ⟨a1, by show fset M.kids f.j _ x.i = _; rw [fset_ne _ _ xj]; exact a2, fset_same _ _ _, a4, ?_⟩
    obtain ⟨n6, n7⟩ := List.nodup_cons.mp (show (x.i :: x.c.all).Nodup from n1)
    refine AtF.congr (M := M) (fun i hi => same i (fun z => n6 (by rw [← z]; exact hi)) (fun z => n3 i (by simp [Nd.all, hi]) f.j (by simp [rfT]) z)) a5
  · obtain ⟨b1, b2, b3, b4, b5⟩ := h1
    have hk := atF_iff.mp b5
    have hn : (f.plug x).c.nds = f.pre ++ x :: f.post := ofL_nds _
    rw [hn] at hk
    refine h2 (M.loose f x.i) f.cutN rfl (fun i hi => same i (fun z => n3 x.i (by simp [Nd.all]) i (by simp [rfT, hi]) z.symm) (fun z => n4 (by rw [← z]; simp [hi]))) ?_
    refine ⟨b1, by show fset M.kids f.j _ f.j = _; rw [fset_same]; show _ = some (F.ofL _).tk; rw [ofL_tk], by show fset M.up x.i _ f.j = _; rw [fset_ne _ _ (Ne.symm xj)]; exact b3, b4, ?_⟩
    refine atF_iff.mpr fun y hy => ?_
    have hy : y ∈ (F.ofL (f.pre ++ f.post)).nds := hy
    rw [ofL_nds] at hy
    have hy2 : y ∈ f.pre ++ x :: f.post := by
      rcases List.mem_append.mp hy with z | z <;> simp [z]
    refine (hk y hy2).congr fun i hi => same i (fun z => ?_) (fun z => n4 ?_)
    · refine n3 x.i (by simp [Nd.all]) i ?_ z.symm
      rcases List.mem_append.mp hy with w | w
      · simp [rfT]
        exact .inr (.inl (mem_allN.mpr ⟨y, w, hi⟩))
      · simp [rfT]
        exact .inr (.inr (.inl (mem_allN.mpr ⟨y, w, hi⟩)))
    · rw [← z]
      rcases List.mem_append.mp hy with w | w
      · simp
        exact .inl (mem_allN.mpr ⟨y, w, hi⟩)
      · simp
        exact .inr (.inl (mem_allN.mpr ⟨y, w, hi⟩))
theorem plugR_app : ∀ (fs : List RFr) (f : RFr) (x : Nd), plugR (fs ++ [f]) x = f.plug (plugR fs x)
  | [], _, _ => rfl
  | g :: fs, f, x => plugR_app fs f (g.plug x)
/-- no empty place anywhere -/
def F.wf0 : F → Bool
  | .nil => true
  | .hole _ => false
  | .cons _ _ _ c r => c.wf0 && r.wf0
theorem wf0_full : ∀ {f : F}, f.wf0 = true → f.full = true
  | .nil, _ => rfl
  | .hole _, h => by cases h
  | .cons _ _ _ c r, h => wf0_full (f := r) (Bool.and_eq_true_iff.mp (show (c.wf0 && r.wf0) = true from h)).2
theorem wf_wf0 {kd : Kd} (nt : isTwo kd = false) : ∀ {f : F}, f.wf kd → f.wf0 = true
  | .nil, _ => rfl
  | .hole _, h => by rw [h.1] at nt; cases nt
  | .cons _ _ _ c r, h => by
    show (c.wf0 && r.wf0) = true
    rw [wf_wf0 nt h.2.2.1, wf_wf0 nt h.2.2.2]
    rfl
/-- an item's place in a tree -/
theorem find_nd {it : It2} : ∀ {f : F}, f.wf0 = true → it ∈ f.its → ∃ pre x post fs, f.nds = pre ++ plugR fs x :: post ∧ x.it = it
  | .nil, _, h => nomatch h
  | .hole _, h, _ => by cases h
  | .cons k i m c r, hf, h => by
    obtain ⟨hf1, hf2⟩ := Bool.and_eq_true_iff.mp (show (c.wf0 && r.wf0) = true from hf)
    rcases List.mem_cons.mp h with z | z
    · exact ⟨[], ⟨k, i, m, c⟩, r.nds, [], rfl, z.symm⟩
    · rcases List.mem_append.mp z with z | z
      · obtain ⟨pre, x, post, fs, e1, e2⟩ := find_nd hf1 z
        refine ⟨[], x, r.nds, fs ++ [⟨k, i, m, pre, post⟩], ?_, e2⟩
        rw [plugR_app]
        show (⟨k, i, m, c⟩ : Nd) :: r.nds = [] ++ (⟨k, i, m, F.ofL (pre ++ plugR fs x :: post)⟩ : Nd) :: r.nds
        rw [← e1, full_ofL (wf0_full hf1)]
        rfl
      · obtain ⟨pre, x, post, fs, e1, e2⟩ := find_nd hf2 z
        exact ⟨⟨k, i, m, c⟩ :: pre, x, post, fs, by show (⟨k, i, m, c⟩ : Nd) :: r.nds = _; rw [e1]; rfl, e2⟩
end Mn

/-! Deeds on shapes of trees that are tied, by what is done in the table. -/
namespace Mn
open PySem
/-- the trees of a shape -/
structure RtL (kd : Kd) (L : List Nd) : Prop where
  wf : ∀ x ∈ L, x.wf kd
  one : isMany kd = false → L.length ≤ 1
def shL (kd : Kd) (L : List Nd) : D := shD kd (F.ofL L)
theorem RtL.rt {kd : Kd} {L : List Nd} (h : RtL kd L) : Rt kd (F.ofL L) := ⟨ofL_full L, ofL_wf h.wf, fun z => by rw [ofL_len]; exact h.one z⟩
/-- what is done in a table that has some trees -/
def Doing (kd : Kd) (n : Nat) (fn : Nat) (as : List D) (t : Nat) (S : Store) (B : Nat → Prop) (N : Nat) (R : List Nd) (w : Int) (Q : DK) (X : XK) : Prop :=
  (∀ S' B' M', Tab S' t B' N M' → Step B B' S S' → M'.kind = kd → Grv M' R → M'.roots = R.map Nd.i → Q (.int w) S') → callN PP n fn as S Q X
/-- other trees join those of a table -/
def AJ (kd : Kd) (n : Nat) (A C R : List Nd) (w : Int) : Prop := ∀ (S : Store) (t N ra : Nat) (B : Nat → Prop) (M : TM) (Q : DK) (X : XK), Tab S t B N M → M.kind = kd → szN (A ++ C) ≤ N → 1 ≤ N → Grv M (A ++ C) → M.roots = A.map Nd.i → S[ra]? = some (.lst (C.map inI)) → ¬ B ra → Doing kd n f_all_joined [.ref t, .ref ra] t S B N R w Q X
/-- an item goes -/
def GN (kd : Kd) (n : Nat) (L : List Nd) (c : Int) (R : List Nd) (w : Int) : Prop := ∀ (S : Store) (t N : Nat) (B : Nat → Prop) (M : TM) (Q : DK) (X : XK), Tab S t B N M → M.kind = kd → szN L ≤ N → 1 ≤ N → Grv M L → M.roots = L.map Nd.i → Doing kd n f_gone [.ref t, .int c] t S B N R w Q X
/-- a lowered item moves -/
def MV (kd : Kd) (n : Nat) (L : List Nd) (c : Int) (R : List Nd) (w : Int) : Prop := ∀ (S : Store) (t N : Nat) (B : Nat → Prop) (M : TM) (Q : DK) (X : XK), Tab S t B N M → M.kind = kd → szN L ≤ N → 1 ≤ N → Grv M L → M.roots = L.map Nd.i → Doing kd n f_moved [.ref t, .int c] t S B N R w Q X
theorem TbF.grv {M : TM} {kd : Kd} {L : List Nd} (tb : TbF M kd (F.ofL L)) (r : RtL kd L) (nd : (allN L).Nodup) : Grv M L ∧ M.roots = L.map Nd.i := by
  have h := atF_iff.mp tb.at_
  rw [ofL_nds] at h
  refine ⟨⟨h, nd, fun x hx => ?_⟩, ?_⟩
  · rw [tb.kind]
    exact r.wf x hx
  · have := tb.roots
    rwa [ofL_nds] at this
/-- the shape of what is in the table now -/
theorem shape_okL (m : Nat) {S : Store} {t N : Nat} {B : Nat → Prop} {M : TM} {L : List Nd} {Q : DK} {X : XK} (T : Tab S t B N M) (nt : isTwo M.kind = false) (one : isMany M.kind = false → L.length ≤ 1) (er : M.roots = L.map Nd.i) (g : Grv M L) (hn : szN L ≤ 5000)
    (q : ∀ S', Ext S S' → Q (shL M.kind L) S') : callN PP (m + 3) f_Table_shape [.ref t] S Q X := by
  refine shape_okF m (f := F.ofL L) T nt (RtL.rt ⟨g.wf, one⟩) (by rw [ofL_nds]; exact er) (atF_iff.mpr fun y hy => ?_) (by rw [ofL_sz]; exact hn) q
  rw [ofL_nds] at hy
  exact g.at_ y hy
theorem one_sz (k i : Int) (m : Bool) : (⟨k, i, m, .nil⟩ : Nd).sz = 1 := rfl
theorem put_okL (n : Nat) {kd : Kd} {L R : List Nd} {k i w : Int} {S : Store} {Q : DK} {X : XK} (hn : 4 ≤ n) (nt : isTwo kd = false) (r : RtL kd L) (nd : (allN L).Nodup) (hi : i ∉ allN L) (hsz : szN L ≤ 2000) (aj : AJ kd n L [⟨k, i, false, .nil⟩] R w) (one : isMany kd = false → R.length ≤ 1) (hR : szN R ≤ 5000)
    (q : ∀ S', Ext S S' → Q (.tup [shL kd R, .int w]) S') : callN PP (n + 1) f_put [.str kd.s, shL kd L, itD (k, i)] S Q X := by
  obtain ⟨n, rfl⟩ : ∃ m, n = m + 4 := ⟨n - 4, by omega⟩
  refine enter rfl rfl ?_
  show wpCs _ k_put_0 _ [some (.str kd.s), some (shD kd (F.ofL L)), some (.tup [.int k, .int i]), none, none] S
  bv_omega
  refine table_of_ok n r.rt (by rw [ofL_all]; exact nd) (by rw [ofL_sz]; omega) fun S1 B1 M1 T1 s1 tb => ?_
  obtain ⟨w1, W1⟩ := T1
  obtain ⟨g1, er⟩ := tb.grv r nd
  have hout := tb.out i (by rw [ofL_all]; exact hi)
  rw [ofL_sz] at W1
  have kd1 := tb.kind
  generalize S.length = t at W1 ⊢
  ac_rfl
  bv_omega
  refine attr_go W1.ins (tb_key _ _) ?_
  refine ini_go W1.d1 ?_
  rw [W1.g1, hout.1]
  show wpCs _ k_put_2 _ _ _
  bv_omega
  refine meth_go W1.ins rfl ?_
  refine add_ok (n + 3) (k := k) (i := i) ⟨w1, W1⟩ (by omega) fun S2 B2 T2 s2 => ?_
  obtain ⟨w2, W2⟩ := T2
  ac_rfl
  bv_omega
  refine attr_go W2.ins (tb_marks _ _) ?_
  refine seti_go W2.d4 (by have := W2.len.2.2.2.1; omega) ?_
  have W3 := W2.set4 (N' := 2 * szN L + 3) i false (by omega) (by have := dPut_len2 w2.k4 (.inl i) (.bl false); have := W2.len.2.2.2.1; omega) (by omega)
  have s3 := Step.set (B := B2) (S := S2) (.dct (dPut w2.k4 (.inl i) (.bl false))) W2.own.2.2.2.2.1
  have st3 := (s1.trans s2).trans s3
  generalize S2.set w2.a4 (.dct (dPut w2.k4 (.inl i) (.bl false))) = S3 at W3 st3 ⊢
  generalize ({ w2 with k4 := dPut w2.k4 (.inl i) (.bl false) } : TW) = w3 at W3
  generalize hM3 : ({ M1.add k i with mark := fset (M1.add k i).mark i false } : TM) = M3 at W3
  have e3 : M3.kind = M1.kind ∧ M3.roots = M1.roots := by rw [← hM3]; exact ⟨rfl, rfl⟩
  have kd3 : M3.kind = kd := e3.1.trans kd1
  have hcon : ∀ j, j ≠ i → Same M1 M3 j := fun j hj => by
    rw [← hM3]
    exact ⟨fset_ne _ _ hj, fset_ne _ _ hj, fset_ne _ _ hj, fset_ne _ _ hj⟩
  have g3 : Grv M3 (L ++ [⟨k, i, false, .nil⟩]) := by
    refine ⟨fun x hx => ?_, ?_, fun x hx => ?_⟩
    · rcases List.mem_append.mp hx with h | h
      · exact (g1.at_ x h).congr fun j hj => hcon j fun z => hi (mem_allN.mpr ⟨x, h, by rw [← z]; exact hj⟩)
      · rw [List.mem_singleton.mp h, ← hM3]
        have i2 : isTwo M1.kind = false := by rw [kd1]; exact nt
        refine ⟨fset_same _ _ _, ?_, fset_same _ _ _, fset_same _ _ _, trivial⟩
        show fset M1.kids i _ i = _
        rw [fset_same, i2]
        rfl
    · rw [allN_app]
      refine List.nodup_append.mpr ⟨nd, by show ([i] : List Int).Nodup; simp, fun a ha b hb z => hi ?_⟩
      have : b = i := by simpa [allN, Nd.all, F.all] using hb
      rw [← this, ← z]
      exact ha
    · rcases List.mem_append.mp hx with h | h
      · rw [kd3]
        exact r.wf x h
      · rw [List.mem_singleton.mp h, kd3]
        exact ⟨fun z => (by rw [nt] at z; cases z), fun _ => rfl, trivial⟩
  ac_rfl
  bv_omega
  have T4 : Tab (S3 ++ [.lst [.int i]]) t B2 (2 * szN L + 3) M3 := Tab.push (⟨_, W3⟩) _
  have st4 := st3.pushN [.lst [.int i]]
  have hb : ¬ B2 S3.length := fun z => Nat.lt_irrefl _ (W3.bnd _ z)
  have hr := last_get S3 (.lst [.int i])
  generalize S3 ++ [.lst [.int i]] = S4 at T4 st4 hr ⊢
  generalize S3.length = ra at hr hb ⊢
  refine aj S4 t _ ra B2 M3 _ _ T4 kd3 (by rw [szN_app]; show szN L + (1 + 0) ≤ _; omega) (by omega) g3 (by rw [e3.2]; exact er) hr hb fun S5 B5 M5 T5 s5 kd5 g5 r5 => ?_
  obtain ⟨w5, W5⟩ := id T5
  ac_rfl
  bv_omega
  refine meth_go W5.ins rfl ?_
  refine shape_okL (n + 1) T5 (by rw [kd5]; exact nt) (fun z => one (by rw [← kd5]; exact z)) r5 g5 hR fun S6 x6 => ?_
  ac_rfl
  rw [kd5]
  exact q S6 (Ext.trans (st4.trans s5).ext0 x6)
end Mn

/-! Taking, dropping, lowering. -/
namespace Mn
open PySem
/-- the least item of some trees' tops -/
def topL : List Nd → It2
  | [] => (0, 0)
  | x :: l => minIt x.it (l.map Nd.it)
theorem nd_it (kd : Kd) (x : Nd) : ∃ r, x.d kd = .tup (itD x.it :: r) := nd_head kd x.k x.i x.m (x.c.dl kd) |> fun ⟨r, e, _⟩ => ⟨r, e⟩
theorem shL_nil (kd : Kd) : shL kd [] = .tup [] := by cases kd <;> rfl
theorem eqnil_sh {kd : Kd} {x : Nd} {L : List Nd} {S : Store} {K : Bool → Prop} (r : RtL kd (x :: L)) (q : K false) : cmpB .Eq (shL kd (x :: L)) (.tup []) S K := by
  have hp := nds_pur kd (x :: L)
  rw [List.map_cons] at hp
  have e : shL kd (x :: L) = .tup ((x :: L).map (Nd.d kd)) ∨ shL kd (x :: L) = x.d kd := by
    unfold shL shD
    rw [full_d kd (ofL_full _), ofL_nds]
    cases isMany kd with
    | true => exact .inl rfl
    | false => exact .inr rfl
  rcases e with e | e <;> rw [e]
  · exact eqnil_pur (l := (x :: L).map (Nd.d kd)) (show (_ && _) = true by rw [List.map_cons]; exact Bool.and_eq_true_iff.mpr hp) q
  · exact eqTup (dl_pur kd x.c) q
theorem least_okL (m : Nat) {kd : Kd} {x : Nd} {L : List Nd} {S : Store} {Q : DK} {X : XK} (r : RtL kd (x :: L)) (hsz : szN (x :: L) ≤ 4000) (q : ∀ S', Ext S S' → Q (itD (topL (x :: L))) S') : callN PP (m + 2) f_least [.str kd.s, shL kd (x :: L)] S Q X := by
  refine enter rfl rfl ?_
  show wpCs _ k_least_0 _ [some (.str kd.s), some (shL kd (x :: L)), none] S
  bv_omega
  refine eqnil_sh r ?_
  show wpCs _ k_least_1 _ [some (.str kd.s), some (shD kd (F.ofL (x :: L))), none] S
  bv_omega
  refine trees_of_ok m r.rt fun S1 x1 h1 => ?_
  ac_rfl
  refine it_lst h1 ?_
  rw [full_d kd (ofL_full _), ofL_nds] at h1 ⊢
  refine lcB_map (S1 := S1) (fun _ => true) (fun d => match d with | .tup (i :: _) => i | _ => .non) (fun acc => lst_of (get_push h1 _)) ?_ ?_ ?_
  · have := szN_len (x :: L)
    simp only [List.length_nil, List.length_map]
    omega
  · intro d hd
    obtain ⟨y, hy, rfl⟩ := List.mem_map.mp hd
    obtain ⟨s, es⟩ := nd_it kd y
    rw [es]
    refine ⟨_, rfl, fun acc => ⟨fun K hK => hK, fun _ K hK => ?_⟩⟩
    ac_rfl
    exact hK
  · have e1 : ((x :: L).map (Nd.d kd)).map (fun d => match d with | .tup (i :: _) => i | _ => .non) = (x.it :: L.map Nd.it).map itD := by
      rw [List.map_map, ← List.map_cons, List.map_map]
      refine List.map_congr_left fun y _ => ?_
      obtain ⟨s, es⟩ := nd_it kd y
      show (match y.d kd with | .tup (i :: _) => i | _ => .non) = itD y.it
      rw [es]
    rw [List.nil_append, filter_all, e1]
    refine min_go (d := itD x.it) (l := (L.map Nd.it).map itD) (last_get _ _) (ord_items (x.it :: L.map Nd.it)) ?_
    rw [minL_it]
    exact q _ (x1.trans (Ext.push _ _))
theorem taken_okL (n : Nat) {kd : Kd} {x : Nd} {L R : List Nd} {w : Int} {S : Store} {Q : DK} {X : XK} (hn : 4 ≤ n) (nt : isTwo kd = false) (r : RtL kd (x :: L)) (nd : (allN (x :: L)).Nodup) (hsz : szN (x :: L) ≤ 2000) (gn : GN kd n (x :: L) (topL (x :: L)).2 R w) (one : isMany kd = false → R.length ≤ 1) (hR : szN R ≤ 5000)
    (q : ∀ S', Ext S S' → Q (.tup [itD (topL (x :: L)), shL kd R, .int w]) S') : callN PP (n + 1) f_taken [.str kd.s, shL kd (x :: L)] S Q X := by
  obtain ⟨n, rfl⟩ : ∃ m, n = m + 4 := ⟨n - 4, by omega⟩
  refine enter rfl rfl ?_
  show wpCs _ k_taken_0 _ [some (.str kd.s), some (shL kd (x :: L)), none, none, none] S
  bv_omega
  refine eqnil_sh r ?_
  show wpCs _ k_taken_1 _ [some (.str kd.s), some (shD kd (F.ofL (x :: L))), none, none, none] S
  bv_omega
  refine table_of_ok n r.rt (by rw [ofL_all]; exact nd) (by rw [ofL_sz]; omega) fun S1 B1 M1 T1 s1 tb => ?_
  obtain ⟨g1, er⟩ := tb.grv r nd
  rw [ofL_sz] at T1
  have kd1 := tb.kind
  generalize S.length = t at T1 ⊢
  ac_rfl
  bv_omega
  refine least_okL (n + 2) r (by omega) fun S2 x2 => ?_
  have T2 := T1.ext x2
  have st2 : Step noB B1 S S2 := by obtain ⟨U, rfl⟩ := x2; exact s1.pushN U
  ac_rfl
  generalize topL (x :: L) = it at gn q ⊢
  obtain ⟨k, i⟩ := it
  refine cs_cons ?_
  show wpE _ _ [_, _, _, some (.tup [.int k, .int i]), _] _ _ _
  ac_rfl
  refine gn S2 t _ B1 M1 _ _ T2 kd1 (by omega) (by omega) g1 er fun S3 B3 M3 T3 s3 kd3 g3 r3 => ?_
  obtain ⟨w3, W3⟩ := id T3
  ac_rfl
  bv_omega
  refine meth_go W3.ins rfl ?_
  refine shape_okL (n + 1) T3 (by rw [kd3]; exact nt) (fun z => one (by rw [← kd3]; exact z)) r3 g3 hR fun S4 x4 => ?_
  ac_rfl
  rw [kd3]
  exact q S4 (Ext.trans (st2.trans s3).ext0 x4)
theorem at_key : ∀ {f : F} {M : TM} {p : Option Int} {k i : Int}, AtF M p f → (k, i) ∈ f.its → M.key i = some k
  | .nil, _, _, _, _, _, h => nomatch h
  | .hole r, _, _, _, _, a, h => at_key (f := r) a h
  | .cons k' i' m c r, M, p, k, i, ⟨a1, a2, a3, a4, a5, a6⟩, h => by
    rcases List.mem_cons.mp h with z | z
    · cases z
      exact a1
    · rcases List.mem_append.mp z with z | z
      · exact at_key a5 z
      · exact at_key a6 z
theorem dropped_okL (n : Nat) {kd : Kd} {L R : List Nd} {k c w : Int} {S : Store} {Q : DK} {X : XK} (hn : 4 ≤ n) (nt : isTwo kd = false) (r : RtL kd L) (nd : (allN L).Nodup) (hc : (k, c) ∈ itsN L) (h0 : 0 ≤ c) (h1 : c ≤ 1000000) (hsz : szN L ≤ 2000) (gn : GN kd n L c R w) (one : isMany kd = false → R.length ≤ 1) (hR : szN R ≤ 5000)
    (q : ∀ S', Ext S S' → Q (.tup [shL kd R, .int w]) S') : callN PP (n + 1) f_dropped [.str kd.s, shL kd L, .int c] S Q X := by
  obtain ⟨n, rfl⟩ : ∃ m, n = m + 4 := ⟨n - 4, by omega⟩
  refine enter rfl rfl ?_
  show wpCs _ k_dropped_0 _ [some (.str kd.s), some (shD kd (F.ofL L)), some (.int c), none, none] S
  bv_omega
  refine table_of_ok n r.rt (by rw [ofL_all]; exact nd) (by rw [ofL_sz]; omega) fun S1 B1 M1 T1 s1 tb => ?_
  obtain ⟨g1, er⟩ := tb.grv r nd
  rw [ofL_sz] at T1
  have kd1 := tb.kind
  generalize S.length = t at T1 ⊢
  have hkey : M1.key c = some k := at_key tb.at_ (by rw [ofL_its]; exact hc)
  ac_rfl
  bv_omega
  refine check_ok (n + 2) T1 hkey h0 h1 ?_
  ac_rfl
  bv_omega
  refine gn S1 t _ B1 M1 _ _ T1 kd1 (by omega) (by omega) g1 er fun S3 B3 M3 T3 s3 kd3 g3 r3 => ?_
  obtain ⟨w3, W3⟩ := id T3
  ac_rfl
  bv_omega
  refine meth_go W3.ins rfl ?_
  refine shape_okL (n + 1) T3 (by rw [kd3]; exact nt) (fun z => one (by rw [← kd3]; exact z)) r3 g3 hR fun S4 x4 => ?_
  ac_rfl
  rw [kd3]
  exact q S4 (Ext.trans (s1.trans s3).ext0 x4)
/-- another key -/
def Nd.rk (x : Nd) (k' : Int) : Nd := { x with k := k' }
/-- what stands in a place is another tree -/
theorem plugR_wf {kd : Kd} : ∀ (fs : List RFr) {x y : Nd}, isTwo kd = false → (plugR fs x).wf kd → (x.wf kd → y.wf kd) → (plugR fs y).wf kd
  | [], x, y, _, h, hy => hy h
  | f :: fs, x, y, nt, h, hy => by
    refine plugR_wf fs (x := f.plug x) (y := f.plug y) nt h fun hf => ?_
    have hn := F.nds_wf hf.2.2
    have e : (f.plug x).c.nds = f.pre ++ x :: f.post := ofL_nds _
    rw [e] at hn
    refine ⟨fun z => (by rw [nt] at z; cases z), hf.2.1, ofL_wf fun z hz => ?_⟩
    rcases List.mem_append.mp hz with h | h
    · exact hn z (by simp [h])
    · rcases List.mem_cons.mp h with h | h
      · rw [h]
        exact hy (hn x (by simp))
      · exact hn z (by simp [h])
theorem lowered_okL (n : Nat) {kd : Kd} {pre post R : List Nd} {fs : List RFr} {x : Nd} {k' w : Int} {S : Store} {Q : DK} {X : XK} (hn : 4 ≤ n) (nt : isTwo kd = false) (r : RtL kd (pre ++ plugR fs x :: post)) (nd : (allN (pre ++ plugR fs x :: post)).Nodup) (h0 : 0 ≤ x.i) (h1 : x.i ≤ 1000000) (hk : k' ≤ x.k) (hsz : szN (pre ++ plugR fs x :: post) ≤ 2000)
    (mv : MV kd n (pre ++ plugR fs (x.rk k') :: post) x.i R w) (one : isMany kd = false → R.length ≤ 1) (hR : szN R ≤ 5000)
    (q : ∀ S', Ext S S' → Q (.tup [shL kd R, .int w]) S') : callN PP (n + 1) f_lowered_deeds [.str kd.s, shL kd (pre ++ plugR fs x :: post), .int x.i, .int k'] S Q X := by
  obtain ⟨n, rfl⟩ : ∃ m, n = m + 4 := ⟨n - 4, by omega⟩
  generalize hL : pre ++ plugR fs x :: post = L at r nd hsz ⊢
  refine enter rfl rfl ?_
  show wpCs _ k_lowered_deeds_0 _ [some (.str kd.s), some (shD kd (F.ofL L)), some (.int x.i), some (.int k'), none, none] S
  bv_omega
  refine table_of_ok n r.rt (by rw [ofL_all]; exact nd) (by rw [ofL_sz]; omega) fun S1 B1 M1 T1 s1 tb => ?_
  obtain ⟨g1, er⟩ := tb.grv r nd
  rw [ofL_sz] at T1
  have kd1 := tb.kind
  generalize S.length = t at T1 ⊢
  have hx : AtN M1 none (plugR fs x) := g1.at_ _ (by rw [← hL]; simp)
  obtain ⟨ax, again⟩ := at_plugR fs hx
  have hkey : M1.key x.i = some x.k := ax.1
  ac_rfl
  bv_omega
  refine check_ok (n + 2) T1 hkey h0 h1 ?_
  obtain ⟨w1, W1⟩ := T1
  ac_rfl
  bv_omega
  refine attr_go W1.ins (tb_key _ _) ?_
  refine ixi_go W1.d1 (W1.g1.some hkey) ?_
  ac_rfl
  rw [show decide (x.k < k') = false from decide_eq_false (by omega)]
  ac_rfl
  bv_omega
  refine attr_go W1.ins (tb_key _ _) ?_
  refine seti_go W1.d1 (by have := W1.len.1; omega) ?_
  have hsm : (dGet w1.k1 (.inl x.i)).isSome = true := by rw [W1.g1, hkey]; rfl
  have W2 := W1.set1 (N' := 2 * szN L + 1) x.i k' (Nat.le_refl _) (by rw [dPut_same hsm]; exact W1.len.1) (by omega)
  have s2 := Step.set (B := B1) (S := S1) (.dct (dPut w1.k1 (.inl x.i) (.int k'))) W1.own.2.1
  have st2 := s1.trans s2
  generalize S1.set w1.a1 (.dct (dPut w1.k1 (.inl x.i) (.int k'))) = S2 at W2 st2 ⊢
  generalize hM2 : ({ M1 with key := fset M1.key x.i k' } : TM) = M2 at W2
  have kd2 : M2.kind = kd := by rw [← hM2]; exact kd1
  have ro2 : M2.roots = M1.roots := by rw [← hM2]
  have con : ∀ i, i ≠ x.i → Same M1 M2 i := fun i hi => by
    rw [← hM2]
    exact ⟨fset_ne _ _ hi, rfl, rfl, rfl⟩
  have ndL := nd
  rw [← hL, allN_app, allN_cons] at ndL
  obtain ⟨n1, n2, n3⟩ := List.nodup_append.mp ndL
  obtain ⟨n4, n5, n6⟩ := List.nodup_append.mp n2
  have n7 := (plugR_all fs x).nodup_iff.mp n4
  obtain ⟨n8, n9, n10⟩ := List.nodup_append.mp n7
  obtain ⟨n11, n12⟩ := List.nodup_cons.mp (show (x.i :: x.c.all).Nodup from n8)
  have hin : x.i ∈ (plugR fs x).all := (plugR_all fs x).symm.subset (by simp [Nd.all])
  have p1 : (plugR fs (x.rk k')).all.Perm (plugR fs x).all := (plugR_all fs _).trans (plugR_all fs x).symm
  have tops : ∀ (fs : List RFr) (x y : Nd), x.i = y.i → (plugR fs x).i = (plugR fs y).i := by
    intro fs
    induction fs with
    | nil => exact fun x y e => e
    | cons f fs ih => exact fun x y e => ih _ _ rfl
  have g2 : Grv M2 (pre ++ plugR fs (x.rk k') :: post) := by
    refine ⟨fun y hy => ?_, ?_, fun y hy => ?_⟩
    · have oth : ∀ y, y ∈ L → x.i ∉ y.all → AtN M2 none y := fun y hy h => (g1.at_ y hy).congr fun i hi => con i fun z => h (by rw [← z]; exact hi)
      rcases List.mem_append.mp hy with h | h
      · exact oth y (by rw [← hL]; simp [h]) fun z => n3 x.i (mem_allN.mpr ⟨y, h, z⟩) x.i (List.mem_append_left _ hin) rfl
      · rcases List.mem_cons.mp h with h | h
        · rw [h]
          refine again M2 (x.rk k') rfl (fun i hi => con i fun z => n10 x.i (by simp [Nd.all]) i hi z.symm) ?_
          obtain ⟨a1, a2, a3, a4, a5⟩ := ax
          refine ⟨by rw [← hM2]; exact fset_same _ _ _, by rw [← hM2]; exact a2, by rw [← hM2]; exact a3, by rw [← hM2]; exact a4, ?_⟩
          exact AtF.congr (M := M1) (fun i hi => con i fun z => n11 (by rw [← z]; exact hi)) a5
        · exact oth y (by rw [← hL]; simp [h]) fun z => n6 x.i hin x.i (mem_allN.mpr ⟨y, h, z⟩) rfl
    · rw [allN_app, allN_cons]
      exact (List.Perm.append_left _ (p1.append_right _)).nodup_iff.mpr ndL
    · rw [kd2]
      rcases List.mem_append.mp hy with h | h
      · exact r.wf y (by rw [← hL]; simp [h])
      · rcases List.mem_cons.mp h with h | h
        · rw [h]
          exact plugR_wf fs nt (r.wf (plugR fs x) (by rw [← hL]; simp)) fun hx => ⟨hx.1, hx.2.1, hx.2.2⟩
        · exact r.wf y (by rw [← hL]; simp [h])
  have er2 : M2.roots = (pre ++ plugR fs (x.rk k') :: post).map Nd.i := by
    rw [ro2, er, ← hL, List.map_append, List.map_append, List.map_cons, List.map_cons, tops fs x (x.rk k') rfl]
  have hsz2 : szN (pre ++ plugR fs (x.rk k') :: post) = szN L := by
    rw [← allN_sz, ← allN_sz, ← hL, allN_app, allN_app, allN_cons, allN_cons]
    exact (List.Perm.append_left _ (p1.append_right _)).length_eq
  ac_rfl
  bv_omega
  refine mv S2 t _ B1 M2 _ _ ⟨_, W2⟩ kd2 (by omega) (by omega) g2 er2 fun S3 B3 M3 T3 s3 kd3 g3 r3 => ?_
  obtain ⟨w3, W3⟩ := id T3
  ac_rfl
  bv_omega
  refine meth_go W3.ins rfl ?_
  refine shape_okL (n + 1) T3 (by rw [kd3]; exact nt) (fun z => one (by rw [← kd3]; exact z)) r3 g3 hR fun S4 x4 => ?_
  ac_rfl
  rw [kd3]
  exact q S4 (Ext.trans (st2.trans s3).ext0 x4)
end Mn

/-! Shapes that grow by deeds, whatever is done in the table. -/
namespace Mn
open PySem
structure Deeds (kd : Kd) (n : Nat) (J : List Nd → Prop) : Prop where
  nil : J []
  put : ∀ (L : List Nd) (k i : Int), RtL kd L → J L → (allN L).Nodup → szN L ≤ 1000 → i ∉ allN L → ∃ (R : List Nd) (w : Int), AJ kd n L [⟨k, i, false, .nil⟩] R w ∧ (itsN R).Perm ((k, i) :: itsN L) ∧ J R ∧ RtL kd R
  gone : ∀ (pre post : List Nd) (fs : List RFr) (x : Nd), RtL kd (pre ++ plugR fs x :: post) → J (pre ++ plugR fs x :: post) → (allN (pre ++ plugR fs x :: post)).Nodup → szN (pre ++ plugR fs x :: post) ≤ 1000 → ∃ (R : List Nd) (w : Int), GN kd n (pre ++ plugR fs x :: post) x.i R w ∧ (x.it :: itsN R).Perm (itsN (pre ++ plugR fs x :: post)) ∧ J R ∧ RtL kd R
  move : ∀ (pre post : List Nd) (fs : List RFr) (x : Nd) (k' : Int), k' ≤ x.k → RtL kd (pre ++ plugR fs x :: post) → J (pre ++ plugR fs x :: post) → (allN (pre ++ plugR fs x :: post)).Nodup → szN (pre ++ plugR fs x :: post) ≤ 1000 → ∃ (R : List Nd) (w : Int), MV kd n (pre ++ plugR fs (x.rk k') :: post) x.i R w ∧ (itsN R).Perm (itsN (pre ++ plugR fs (x.rk k') :: post)) ∧ J R ∧ RtL kd R
theorem topL_mem : ∀ (x : Nd) (L : List Nd), ∃ pre y post, x :: L = pre ++ y :: post ∧ y.it = topL (x :: L) := by
  have go : ∀ (L : List Nd) (a : It2), minIt a (L.map Nd.it) = a ∨ ∃ y ∈ L, y.it = minIt a (L.map Nd.it) := by
    intro L
    induction L with
    | nil => exact fun a => .inl rfl
    | cons z L ih =>
      intro a
      show minIt (if itLt z.it a = true then z.it else a) (L.map Nd.it) = a ∨ ∃ y ∈ z :: L, y.it = minIt (if itLt z.it a = true then z.it else a) (L.map Nd.it)
      split
      · rcases ih z.it with h | ⟨y, hy, h⟩
        · exact .inr ⟨z, List.mem_cons_self, h.symm⟩
        · exact .inr ⟨y, List.mem_cons_of_mem _ hy, h⟩
      · rcases ih a with h | ⟨y, hy, h⟩
        · exact .inl h
        · exact .inr ⟨y, List.mem_cons_of_mem _ hy, h⟩
  intro x L
  rcases go L x.it with h | ⟨y, hy, h⟩
  · exact ⟨[], x, L, rfl, h.symm⟩
  · obtain ⟨l1, l2, e⟩ := List.append_of_mem hy
    exact ⟨x :: l1, y, l2, by rw [e]; rfl, h⟩
theorem rtl_of {kd : Kd} {f : F} (r : Rt kd f) : RtL kd f.nds ∧ F.ofL f.nds = f := ⟨⟨F.nds_wf r.wf, fun z => by have := r.one z; have e := ofL_len f.nds; rw [full_ofL r.full] at e; omega⟩, full_ofL r.full⟩
theorem szN_its {L : List Nd} : szN L = (itsN L).length := (itsN_len L).symm
theorem plugs_its (pre post : List Nd) (fs : List RFr) (x : Nd) : (itsN (pre ++ plugR fs x :: post)).Perm (x.its ++ (rfI fs ++ (itsN pre ++ itsN post))) := by
  rw [itsN_app]
  show (itsN pre ++ ((plugR fs x).its ++ itsN post)).Perm _
  refine (List.Perm.append_left _ ((plugR_its fs x).append_right _)).trans ?_
  rw [← List.append_assoc]
  refine (List.perm_append_comm (l₁ := itsN pre) |>.append_right _).trans ?_
  rw [List.append_assoc, List.append_assoc]
theorem by_programL {kd : Kd} {n : Nat} {J : List Nd → Prop} (D : Deeds kd n J) (hn : 4 ≤ n) (nt : isTwo kd = false) {f : F} {i : Nat} {dd : Dd} {hi : Int} {S : Store} {Q : DK} {X : XK} (g : GF kd f i 0 hi) (hi2 : i ≤ 500) (hhi : hi ≤ 1000000) (ok : Dd.ok f.its hi dd) (hj : J f.nds)
    (q : ∀ (f' : F) (w : Int) S', Ext S S' → Rt kd f' → Dd.made f.its f'.its dd → J f'.nds → Q (.tup [shD kd f', .int w]) S') : callN PP (n + 2) f_law_by_program [.str kd.s, shD kd f, dd.d] S Q X := by
  obtain ⟨r, ef⟩ := rtl_of g.rt
  have ei : f.its = itsN f.nds := its_nds f
  have ea : f.all = allN f.nds := by rw [← ef, ofL_all, ofL_nds]
  have es : f.sz = szN f.nds := (F.nds_sz f).symm
  have nd := g.nd
  have tb := g.tb
  have hsz := g.sz
  rw [ea] at nd tb
  rw [es] at hsz
  rw [ei] at ok q
  have esh : shD kd f = shL kd f.nds := by unfold shL; rw [ef]
  rw [esh]
  have hw0 : f.wf0 = true := wf_wf0 nt g.rt.wf
  generalize f.nds = L at *
  have fin : ∀ (R : List Nd) (w : Int) (S' : Store), Ext S S' → RtL kd R → Dd.made (itsN L) (itsN R) dd → J R → Q (.tup [shL kd R, .int w]) S' := fun R w S' x rr md jr => q (F.ofL R) w S' x rr.rt (by rw [ofL_its]; exact md) (by rw [ofL_nds]; exact jr)
  have find : ∀ {it : It2}, it ∈ itsN L → ∃ pre x post fs, L = pre ++ plugR fs x :: post ∧ x.it = it := by
    intro it h
    have := find_nd (f := F.ofL L) (it := it) (wf_wf0 nt r.rt.wf) (by rw [ofL_its]; exact h)
    rw [ofL_nds] at this
    exact this
  refine enter rfl rfl ?_
  cases dd with
  | put k i =>
    obtain ⟨rfl, _, _⟩ := ok
    have hni : i ∉ allN L := fun z => by have := tb i z; omega
    obtain ⟨R, w, aj, pm, jr, rr⟩ := D.put L k i r hj nd (by omega) hni
    show wpCs _ k_law_by_program_0 _ [some (.str kd.s), some (shL kd L), some (.tup [.str "put", itD (k, i)])] S
    bv_omega
    show wpCs _ k_law_by_program_0a0 _ _ _
    bv_omega
    refine put_okL n hn nt r nd hni (by omega) aj rr.one ?_ fun S' x => fin R w S' x rr pm jr
    rw [szN_its, pm.length_eq, List.length_cons, ← szN_its]
    omega
  | take =>
    cases L with
    | nil => exact absurd rfl ok
    | cons y L =>
      obtain ⟨pre, x, post, e1, e2⟩ := topL_mem y L
      rw [e1] at hj nd hsz r
      obtain ⟨R, w, gn, pm, jr, rr⟩ := D.gone pre post [] x r hj nd (by show szN (pre ++ x :: post) ≤ 1000; omega)
      have gn' : GN kd n (pre ++ x :: post) x.i R w := gn
      have pm' : (x.it :: itsN R).Perm (itsN (pre ++ x :: post)) := pm
      rw [← e1] at gn' pm' r nd hsz
      rw [show x.i = x.it.2 from rfl, e2] at gn'
      show wpCs _ k_law_by_program_0 _ [some (.str kd.s), some (shL kd (y :: L)), some (.tup [.str "take"])] S
      bv_omega
      show wpCs _ k_law_by_program_1 _ _ _
      bv_omega
      show wpCs _ k_law_by_program_1a0 _ _ _
      bv_omega
      refine taken_okL n hn nt r nd (by omega) gn' rr.one ?_ fun S' x' => ?_
      · have := pm'.length_eq
        rw [List.length_cons, ← szN_its, ← szN_its] at this
        omega
      ac_rfl
      rw [cut1]
      exact fin R w S' x' rr ⟨x.it, pm'⟩ jr
  | drop k i =>
    obtain ⟨pre, x, post, fs, rfl, e2⟩ := find ok
    obtain ⟨ek, ei2⟩ := Prod.mk.inj (show (x.k, x.i) = (k, i) from e2)
    subst ek ei2
    have hti := tb x.i (by rw [← allN_its]; exact List.mem_map.mpr ⟨_, ok, rfl⟩)
    obtain ⟨R, w, gn, pm, jr, rr⟩ := D.gone pre post fs x r hj nd (by omega)
    show wpCs _ k_law_by_program_0 _ [some (.str kd.s), some (shL kd (pre ++ plugR fs x :: post)), some (.tup [.str "drop", .tup [.int x.k, .int x.i]])] S
    bv_omega
    show wpCs _ k_law_by_program_1 _ _ _
    bv_omega
    show wpCs _ k_law_by_program_2 _ _ _
    bv_omega
    show wpCs _ k_law_by_program_2a0 _ _ _
    bv_omega
    refine dropped_okL n hn nt r nd ok hti.1 (by omega) (by omega) gn rr.one ?_ fun S' x' => fin R w S' x' rr pm jr
    have := pm.length_eq
    rw [List.length_cons, ← szN_its, ← szN_its] at this
    omega
  | low k i k' =>
    obtain ⟨ok1, ok2, ok3⟩ := ok
    obtain ⟨pre, x, post, fs, rfl, e2⟩ := find ok1
    obtain ⟨ek, ei2⟩ := Prod.mk.inj (show (x.k, x.i) = (k, i) from e2)
    subst ek ei2
    have hti := tb x.i (by rw [← allN_its]; exact List.mem_map.mpr ⟨_, ok1, rfl⟩)
    obtain ⟨R, w, mv, pm, jr, rr⟩ := D.move pre post fs x k' ok2 r hj nd (by omega)
    have p1 := plugs_its pre post fs x
    have p2 := pm.trans (plugs_its pre post fs (x.rk k'))
    show wpCs _ k_law_by_program_0 _ [some (.str kd.s), some (shL kd (pre ++ plugR fs x :: post)), some (.tup [.str "lower", .tup [.int x.k, .int x.i], .int k'])] S
    bv_omega
    show wpCs _ k_law_by_program_1 _ _ _
    bv_omega
    show wpCs _ k_law_by_program_2 _ _ _
    bv_omega
    show wpCs _ k_law_by_program_3 _ _ _
    bv_omega
    refine lowered_okL n hn nt r nd hti.1 (by omega) ok2 (by omega) mv rr.one ?_ fun S' x' => fin R w S' x' rr ⟨x.c.its ++ (rfI fs ++ (itsN pre ++ itsN post)), p1, p2⟩ jr
    have e1 := p1.length_eq
    have e2 := p2.length_eq
    have e3 : x.its.length = (x.rk k').its.length := rfl
    rw [List.length_append, ← szN_its] at e1 e2
    omega
theorem grownL {kd : Kd} {n : Nat} {J : List Nd → Prop} (D : Deeds kd n J) (hn : 4 ≤ n) (nt : isTwo kd = false) {many : Nat} {k0 base : Int} {s : Nat} {S : Store} {Q : DK} {X : XK} (hs : Src S s k0) (h0 : 0 ≤ k0) (h1 : k0 ≤ 10000) (hmany : many ≤ 300) (hb : 0 ≤ base) (hb2 : base ≤ 10000)
    (q : ∀ f k' S', GF kd f many base (base + many) → J f.nds → Fr s S S' → Src S' s k' → k0 ≤ k' → k' ≤ k0 + 6 * many → Q (shD kd f) S') : callN PP (n + 3) f_law_grown [.ref s, .str kd.s, .int many, .int base] S Q X :=
  grown_okF 0 (n + 2) (J := fun f => J f.nds) (by omega) hs h0 h1 hmany hb D.nil (fun f i dd S Q hi g hj ok hq => by_programL D hn nt (g.mono (Nat.le_refl _) hb (Int.le_refl _)) (by omega) (by omega) ok hj fun f' w S' x rt md jj => hq f' w S' x rt md jj) q
end Mn

/-! Lesser items above. -/
namespace Mn
open PySem
def F.hp : Option It2 → F → Prop
  | _, .nil => True
  | p, .hole r => r.hp p
  | p, .cons k i _ c r => leO p (k, i) ∧ c.hp (some (k, i)) ∧ r.hp p
def Nd.hp (p : Option It2) (x : Nd) : Prop := leO p x.it ∧ x.c.hp (some x.it)
theorem hp_iff {p : Option It2} : ∀ {f : F}, f.hp p ↔ ∀ y ∈ f.nds, y.hp p
  | .nil => ⟨fun _ _ h => (nomatch h), fun _ => trivial⟩
  | .hole r => hp_iff (f := r)
  | .cons k i m c r => by
    show (leO p (k, i) ∧ c.hp (some (k, i)) ∧ r.hp p) ↔ ∀ y ∈ (⟨k, i, m, c⟩ : Nd) :: r.nds, y.hp p
    rw [List.forall_mem_cons, hp_iff (f := r)]
    exact ⟨fun h => ⟨⟨h.1, h.2.1⟩, h.2.2⟩, fun h => ⟨h.1.1, h.1.2, h.2⟩⟩
def hpL (L : List Nd) : Prop := ∀ x ∈ L, x.hp none
theorem nhp_none {p : Option It2} {x : Nd} (h : x.hp p) : x.hp none := ⟨leO_none _, h.2⟩
theorem addK_hp {kd : Kd} {w l : Nd} {p : Option It2} (hw : w.hp p) (hl : l.hp (some w.it)) : (addK kd w l).hp p := by
  refine ⟨hw.1, hp_iff.mpr fun y hy => ?_⟩
  have hy : y ∈ (F.ofL (if kd = .pair then l.um :: w.c.nds else w.c.nds ++ [l.um])).nds := hy
  rw [ofL_nds] at hy
  have hc := hp_iff.mp hw.2
  have hyc : y = l.um ∨ y ∈ w.c.nds := by
    split at hy
    · exact List.mem_cons.mp hy
    · rcases List.mem_append.mp hy with h | h
      · exact .inr h
      · exact .inl (List.mem_singleton.mp h)
  rcases hyc with rfl | h
  · exact hl
  · exact hc y h
theorem tieN_hp (kd : Kd) {x y : Nd} {p : Option It2} (hx : x.hp p) (hy : y.hp p) : (tieN kd x y).hp p := by
  unfold tieN
  rcases wl_cases x y with ⟨e, h⟩ | ⟨e, h⟩ <;> rw [e]
  · exact addK_hp hx ⟨leO_some (le_of_lt h), hy.2⟩
  · exact addK_hp hy ⟨leO_some (le_of_nlt h), hx.2⟩
/-- what stands in a place is another tree -/
theorem rplug_hp {f : RFr} {x : Nd} {p : Option It2} : (f.plug x).hp p ↔ leO p (f.k, f.j) ∧ (∀ y ∈ f.pre ++ f.post, y.hp (some (f.k, f.j))) ∧ x.hp (some (f.k, f.j)) := by
  unfold RFr.plug Nd.hp
  show (leO p (f.k, f.j) ∧ (F.ofL (f.pre ++ x :: f.post)).hp (some (f.k, f.j))) ↔ _
  rw [hp_iff, ofL_nds]
  constructor
  · exact fun h => ⟨h.1, fun y hy => h.2 y (by rcases List.mem_append.mp hy with z | z <;> simp [z]), h.2 x (by simp)⟩
  · refine fun h => ⟨h.1, fun y hy => ?_⟩
    rcases List.mem_append.mp hy with z | z
    · exact h.2.1 y (List.mem_append_left _ z)
    · rcases List.mem_cons.mp z with z | z
      · rw [z]
        exact h.2.2
      · exact h.2.1 y (List.mem_append_right _ z)
theorem cutN_hp {f : RFr} {x : Nd} {p : Option It2} (h : (f.plug x).hp p) : f.cutN.hp p := by
  obtain ⟨h1, h2, h3⟩ := rplug_hp.mp h
  refine ⟨h1, hp_iff.mpr fun y hy => ?_⟩
  have hy : y ∈ (F.ofL (f.pre ++ f.post)).nds := hy
  rw [ofL_nds] at hy
  exact h2 y hy
theorem plugR_hp : ∀ (fs : List RFr) {x y : Nd} {p : Option It2}, (plugR fs x).hp p → (∀ q, x.hp q → y.hp q) → (plugR fs y).hp p
  | [], x, y, p, h, hy => hy p h
  | f :: fs, x, y, p, h, hy => plugR_hp fs (x := f.plug x) h fun q hq => by
    obtain ⟨h1, h2, h3⟩ := rplug_hp.mp hq
    exact rplug_hp.mpr ⟨h1, h2, hy _ h3⟩
theorem plugR_in : ∀ (fs : List RFr) {x : Nd} {p : Option It2}, (plugR fs x).hp p → ∃ q, x.hp q
  | [], x, p, h => ⟨p, h⟩
  | f :: fs, x, p, h => by
    obtain ⟨q, hq⟩ := plugR_in fs (x := f.plug x) h
    exact ⟨_, (rplug_hp.mp hq).2.2⟩
theorem kids_hp {x : Nd} {p : Option It2} (h : x.hp p) : ∀ y ∈ x.c.nds, y.hp none := fun y hy => nhp_none (hp_iff.mp h.2 y hy)
theorem low_hp {x : Nd} {k' : Int} {p : Option It2} (hk : k' ≤ x.k) (h : x.hp p) (hl : leO p (k', x.i)) : (x.rk k').hp p := by
  refine ⟨hl, hp_iff.mpr fun y hy => ?_⟩
  obtain ⟨h1, h2⟩ := hp_iff.mp h.2 y hy
  exact ⟨fun r hr => by cases hr; exact lin_it.trans _ _ _ (low_le hk) (h1 x.it rfl), h2⟩
/-! items -/
theorem itsN_one (x : Nd) : itsN [x] = x.its := by show x.its ++ [] = _; rw [List.append_nil]
theorem nd_itsc (x : Nd) : x.its = x.it :: itsN x.c.nds := by
  show (x.k, x.i) :: x.c.its = _
  rw [its_nds]
  rfl
theorem plugR_in_wf {kd : Kd} : ∀ (fs : List RFr) {x : Nd}, (plugR fs x).wf kd → x.wf kd
  | [], x, h => h
  | f :: fs, x, h => by
    have h := plugR_in_wf fs (x := f.plug x) h
    have := F.nds_wf h.2.2 x
    rw [show (f.plug x).c.nds = f.pre ++ x :: f.post from ofL_nds _] at this
    exact this (by simp)
theorem cut_wf {kd : Kd} (nt : isTwo kd = false) {f : RFr} {fs : List RFr} {x : Nd} (h : (plugR (f :: fs) x).wf kd) : (plugR fs f.cutN).wf kd := by
  refine plugR_wf fs (x := f.plug x) nt h fun hf => ?_
  have hn := F.nds_wf hf.2.2
  rw [show (f.plug x).c.nds = f.pre ++ x :: f.post from ofL_nds _] at hn
  refine ⟨fun z => (by rw [nt] at z; cases z), hf.2.1, ofL_wf fun z hz => hn z ?_⟩
  rcases List.mem_append.mp hz with h | h <;> simp [h]
theorem rk_wf {kd : Kd} {x : Nd} {k' : Int} (h : x.wf kd) : (x.rk k').wf kd := ⟨h.1, h.2.1, h.2.2⟩
theorem one_tree {kd : Kd} {pre post : List Nd} {y : Nd} (hm : isMany kd = false) (r : RtL kd (pre ++ y :: post)) : pre = [] ∧ post = [] := by
  have := r.one hm
  rw [List.length_append, List.length_cons] at this
  exact ⟨List.length_eq_zero_iff.mp (by omega), List.length_eq_zero_iff.mp (by omega)⟩
theorem hp_all2 : ∀ {f : F} {r : It2}, f.hp (some r) → ∀ q ∈ f.its, itLe r q = true
  | .nil, _, _, q, hq => nomatch hq
  | .hole g, _, h, q, hq => hp_all2 (f := g) h q hq
  | .cons k i m c g, r, h, q, hq => by
    have h0 := h.1 r rfl
    rcases List.mem_cons.mp hq with z | z
    · rw [z]
      exact h0
    · rcases List.mem_append.mp z with z | z
      · exact lin_it.trans _ _ _ h0 (hp_all2 h.2.1 q z)
      · exact hp_all2 h.2.2 q z
theorem top_least {x : Nd} {p : Option It2} (h : x.hp p) : ∀ q ∈ x.its, itLe x.it q = true := fun q hq => by
  rcases List.mem_cons.mp hq with z | z
  · rw [z]
    exact le_refl _
  · exact hp_all2 h.2 q z
theorem topL_le : ∀ (L : List Nd) (a : It2), itLe (minIt a (L.map Nd.it)) a = true ∧ ∀ y ∈ L, itLe (minIt a (L.map Nd.it)) y.it = true
  | [], a => ⟨le_refl a, fun y hy => nomatch hy⟩
  | z :: L, a => by
    show itLe (minIt (if itLt z.it a = true then z.it else a) (L.map Nd.it)) a = true ∧ ∀ y ∈ z :: L, itLe (minIt (if itLt z.it a = true then z.it else a) (L.map Nd.it)) y.it = true
    split
    · rename_i h
      obtain ⟨h1, h2⟩ := topL_le L z.it
      refine ⟨lin_it.trans _ _ _ h1 (le_of_lt h), fun y hy => ?_⟩
      rcases List.mem_cons.mp hy with rfl | hy
      · exact h1
      · exact h2 y hy
    · rename_i h
      obtain ⟨h1, h2⟩ := topL_le L a
      refine ⟨h1, fun y hy => ?_⟩
      rcases List.mem_cons.mp hy with rfl | hy
      · exact lin_it.trans _ _ _ h1 (le_of_nlt (by simpa using h))
      · exact h2 y hy
theorem topL_sort {x : Nd} {L : List Nd} (h : hpL (x :: L)) : ∃ r, sortIt (itsN (x :: L)) = topL (x :: L) :: r := by
  obtain ⟨h1, h2⟩ := topL_le L x.it
  refine sort_head ?_ fun q hq => ?_
  · obtain ⟨pre, y, post, e1, e2⟩ := topL_mem x L
    rw [← e2, e1]
    refine List.mem_flatten.mpr ⟨y.its, List.mem_map.mpr ⟨y, by simp, rfl⟩, List.mem_cons_self⟩
  · obtain ⟨l, hl, hq⟩ := List.mem_flatten.mp hq
    obtain ⟨y, hy, rfl⟩ := List.mem_map.mp hl
    have h3 := top_least (h y hy) q hq
    rcases List.mem_cons.mp hy with e | hy
    · rw [e] at h3
      exact lin_it.trans _ _ _ h1 h3
    · exact lin_it.trans _ _ _ (h2 y hy) h3
end Mn

/-! Pair: tying many. -/
namespace Mn
open PySem
/-- from the last on -/
def tieR (kd : Kd) : List Nd → List Nd
  | [] => []
  | x :: l => match tieR kd l with
    | [] => [x]
    | y :: _ => [tieN kd x y]
theorem tieR_two (kd : Kd) (x y : Nd) : ∀ A : List Nd, tieR kd (A ++ [x, y]) = tieR kd (A ++ [tieN kd x y])
  | [] => rfl
  | a :: A => by
    show (match tieR kd (A ++ [x, y]) with | [] => [a] | z :: _ => [tieN kd a z]) = (match tieR kd (A ++ [tieN kd x y]) with | [] => [a] | z :: _ => [tieN kd a z])
    rw [tieR_two kd x y A]
theorem tieR_len (kd : Kd) (l : List Nd) : (tieR kd l).length = min 1 l.length := by
  cases l with
  | nil => rfl
  | cons x l =>
    show (match tieR kd l with | [] => [x] | z :: _ => [tieN kd x z]).length = _
    split <;> simp <;> omega
theorem tieR_one (kd : Kd) {l : List Nd} (h : l.length ≤ 1) : tieR kd l = l := by
  match l, h with
  | [], _ => rfl
  | [x], _ => rfl
theorem last2 {l : List Nd} (h : 1 < l.length) : ∃ A x y, l = A ++ [x, y] := by
  rcases List.eq_nil_or_concat l with rfl | ⟨B, y, rfl⟩
  · simp at h
  · rw [List.concat_eq_append] at *
    rcases List.eq_nil_or_concat B with rfl | ⟨A, x, rfl⟩
    · simp at h
    · exact ⟨A, x, y, by simp⟩
theorem tieR_its (kd : Kd) : ∀ l : List Nd, (itsN (tieR kd l)).Perm (itsN l)
  | [] => .refl _
  | x :: l => by
    have ih := tieR_its kd l
    show (itsN (match tieR kd l with | [] => [x] | y :: _ => [tieN kd x y])).Perm (x.its ++ itsN l)
    cases h : tieR kd l with
    | nil =>
      rw [h] at ih
      show (x.its ++ []).Perm _
      exact List.Perm.append_left _ ih
    | cons y r =>
      have hl := tieR_len kd l
      rw [h] at hl ih
      have hr : r = [] := by
        cases r with
        | nil => rfl
        | cons _ _ => simp at hl; omega
      subst hr
      show ((tieN kd x y).its ++ []).Perm _
      rw [List.append_nil]
      refine (tieN_its kd x y).trans (List.Perm.append_left _ ?_)
      have : itsN [y] = y.its := by show y.its ++ [] = _; rw [List.append_nil]
      rw [← this]
      exact ih
theorem tieR_wf {kd : Kd} (nt : isTwo kd = false) : ∀ {l : List Nd}, (∀ x ∈ l, x.wf kd) → ∀ x ∈ tieR kd l, x.wf kd
  | [], _, x, hx => nomatch hx
  | a :: l, h, x, hx => by
    have ih := tieR_wf nt (l := l) fun y hy => h y (List.mem_cons_of_mem _ hy)
    have hx : x ∈ (match tieR kd l with | [] => [a] | y :: _ => [tieN kd a y]) := hx
    split at hx
    · rw [List.mem_singleton.mp hx]
      exact h a List.mem_cons_self
    · rename_i y r e
      rw [List.mem_singleton.mp hx]
      exact tieN_wf nt (h a List.mem_cons_self) (ih y (by rw [e]; exact List.mem_cons_self))
theorem neg1_get {S : Store} {n : Nat} {l : List D} {d : D} {Q : DK} (h : S[n]? = some (.lst (l ++ [d]))) (q : Q d S) : ixD (.ref n) (.int (-1)) S Q := by
  refine ixm_go (j := 0) (k := 1) h (by simp) (by decide) ?_ q
  rw [List.length_append, List.getElem?_append_right (by simp)]
  simp
theorem neg1_set {S : Store} {n : Nat} {l : List D} {d v : D} {Q : Store → Prop} (h : S[n]? = some (.lst (l ++ [d]))) (q : Q (S.set n (.lst (l ++ [v])))) : setIx (.ref n) (.int (-1)) v S Q := by
  unfold setIx
  dsimp only
  rw [h]
  dsimp only
  have e : L2.ixN (l ++ [d]).length (-1) = some l.length := by
    unfold L2.ixN
    rw [if_neg (by decide), if_pos (by simp; omega)]
    simp
    omega
  rw [e]
  dsimp only
  have e2 : (l ++ [d]).set l.length v = l ++ [v] := by
    rw [List.set_append_right _ _ (Nat.le_refl _), Nat.sub_self]
    rfl
  rw [e2]
  exact q
/-- what is kept of a table while trees are tied -/
structure Kept (M M' : TM) : Prop where
  kind : M'.kind = M.kind
  roots : M'.roots = M.roots
theorem Grv.szs {M : TM} {L : List Nd} (g : Grv M L) {n : Nat} (h : szN L ≤ n) : ∀ x ∈ L, x.sz ≤ n := fun x hx => by
  have : ∀ l : List Nd, x ∈ l → x.sz ≤ szN l := by
    intro l
    induction l with
    | nil => exact fun h => nomatch h
    | cons z l ih =>
      intro hz
      rw [szN_cons]
      rcases List.mem_cons.mp hz with rfl | hz
      · omega
      · have := ih hz
        omega
  exact Nat.le_trans (this L hx) h
theorem szN_tie {kd : Kd} {x y : Nd} {A : List Nd} : szN (A ++ [tieN kd x y]) = szN (A ++ [x, y]) := by
  rw [← itsN_len, ← itsN_len]
  rw [itsN_app, itsN_app, List.length_append, List.length_append]
  have h := (tieN_its kd x y).length_eq
  have e1 : itsN [tieN kd x y] = (tieN kd x y).its := by show _ ++ [] = _; rw [List.append_nil]
  have e2 : itsN [x, y] = x.its ++ y.its := by show x.its ++ (y.its ++ []) = _; rw [List.append_nil]
  rw [e1, e2, h]
theorem tied_all_ok (m : Nat) {S : Store} {t N r : Nat} {B : Nat → Prop} {M : TM} {L : List Nd} {Q : DK} {X : XK} (T : Tab S t B N M) (hN : 1 ≤ N) (nt : isTwo M.kind = false) (g : Grv M L) (hs : szN L ≤ 2000) (hr : S[r]? = some (.lst (L.map inI))) (hrb : ¬ B r)
    (q : ∀ S' B' M', Tab S' t B' N M' → (∀ j, B' j → B j ∨ j = r) → (∀ j, j < S.length → ¬ B j → j ≠ r → S'[j]? = S[j]?) → S.length ≤ S'.length → M'.kind = M.kind → Grv M' (tieR M.kind L) → M'.roots = (tieR M.kind L).map Nd.i → Q (.int (L.length - 1 : Nat)) S') : callN PP (m + 5) f_tied_all [.ref t, .ref r] S Q X := by
  obtain ⟨a6, T⟩ := T.r
  refine enter rfl rfl ?_
  show wpCs _ k_tied_all_0 _ [some (.ref t), some (.ref r), none, none] S
  have hll := szN_len L
  bv_omega
  bv_omega
  refine whB_at (fun k ρ S' => ∃ (M1 : TM) (C : List Nd) (x3 : Option D), ρ = [some (.ref t), some (.ref r), some (.int (L.length - C.length : Nat)), x3] ∧ TabR S' t B N M1 a6 ∧ StepX (fun j => j = r) B B S S' ∧ M1.kind = M.kind ∧ Grv M1 C ∧ S'[r]? = some (.lst (C.map inI)) ∧ tieR M.kind C = tieR M.kind L ∧ C.length = k ∧ k ≤ L.length ∧ szN C = szN L ∧ (L.length ≠ 0 → k ≠ 0)) ?_ L.length
    ⟨M, L, _, by rw [Nat.sub_self]; rfl, T, (Step.refl _ _).x _, rfl, g, hr, rfl, rfl, Nat.le_refl _, rfl, fun h => h⟩
  rintro k ρ S1 ⟨M1, C, x3, rfl, T1, s1, kd1, g1, h1, e1, ek, hk, hsz, hk0⟩ N2 hN2
  ac_rfl
  refine len_go h1 (by rw [List.length_map]; omega) ?_
  rw [List.length_map]
  ac_rfl
  by_cases hlt : 1 < C.length
  · rw [show decide ((1 : Int) < (C.length : Int)) = true from decide_eq_true (by omega)]
    obtain ⟨A, x, y, rfl⟩ := last2 hlt
    have szs := g1.szs (n := 2000) (by omega)
    have hA2 : (A ++ [x, y]).length = A.length + 2 := by simp
    show wpCs _ k_tied_all_1a0 _ _ _
    bv_omega
    have em : (A ++ [x, y]).map inI = (A.map inI ++ [inI x]) ++ [inI y] := by simp
    rw [em] at h1
    refine ⟨recv_l h1, pop_go h1 ?_⟩
    have T2 := T1.setO (.lst (A.map inI ++ [inI x])) hrb
    have h2 : (S1.set r (.lst (A.map inI ++ [inI x])))[r]? = _ := get_set h1
    have s2 := s1.trans (StepX.set (B := B) (S := S1) (.lst (A.map inI ++ [inI x])) rfl)
    generalize S1.set r (.lst (A.map inI ++ [inI x])) = S2 at T2 h2 s2 ⊢
    have p1 : (A ++ [x, y]).Perm (x :: y :: A) := List.perm_append_comm
    have g2 := g1.perm p1
    ac_rfl
    bv_omega
    refine neg1_get h2 ?_
    show callN PP (m + 4) f_tie [.ref t, .int x.i, .int y.i] S2 _ _
    have nt1 : isTwo M1.kind = false := by rw [kd1]; exact nt
    refine tie_ok m T2 nt1 (g2.at_ x (by simp)) (g2.at_ y (by simp)) (g2.wf x (by simp)) (g2.wf y (by simp)) (by have := szs x (by simp); omega) (by have := szs y (by simp); omega) fun S3 T3 s3 => ?_
    obtain ⟨h3, _⟩ := s3.get h2 hrb
    have g3 := Grv.tie nt1 g2
    have et : (tieN M1.kind x y).i = (wl x y).1.i := rfl
    ac_rfl
    refine neg1_set h3 ?_
    have T4 := T3.setO (.lst (A.map inI ++ [.int (wl x y).1.i])) hrb
    have s4 := (s2.trans (s3.x _)).trans (StepX.set (B := B) (S := S3) (.lst (A.map inI ++ [.int (wl x y).1.i])) rfl)
    have h4 : (S3.set r (.lst (A.map inI ++ [.int (wl x y).1.i])))[r]? = _ := get_set h3
    ac_rfl
    bv_omega
    refine hN2 (A.length + 1) _ _ (by omega) ⟨_, A ++ [tieN M.kind x y], some (inI y), ?_, T4, s4, kd1, ?_, ?_, ?_, by simp, by omega, ?_, fun _ => by omega⟩
    · have e5 : ((L.length - (A ++ [x, y]).length : Nat) : Int) + 1 = ((L.length - (A ++ [tieN M.kind x y]).length : Nat) : Int) := by
        rw [hA2, List.length_append]
        show _ = ((L.length - (A.length + 1) : Nat) : Int)
        omega
      rw [e5]
    · rw [← kd1]
      exact g3.perm (List.perm_append_comm (l₁ := [_]))
    · rw [h4, List.map_append, ← kd1]
      rfl
    · rw [← tieR_two]
      exact e1
    · rw [szN_tie]
      exact hsz
  · rw [show decide ((1 : Int) < (C.length : Int)) = false from decide_eq_false (by omega)]
    have eC : C = tieR M.kind L := by rw [← e1, tieR_one _ (by omega)]
    obtain ⟨w1, W1, _⟩ := T1
    ac_rfl
    bv_omega
    have hu : ∀ j, dGet w1.k2 (.inl j) ≠ some (.ref r) := fun j e => by
      rcases W1.g2 j with z | ⟨l, b, q1, q2, q3, q4, q5⟩
      · rw [z.2] at e
        cases e
      · rw [q2] at e
        cases e
        exact hrb q5
    have hrl := get_lt h1
    have em : C.map inI = (C.map Nd.i).map D.int := by rw [List.map_map]; rfl
    rw [em] at h1
    have W2 := (W1.more (B' := fun j => B j ∨ j = r) (fun j h => .inl h) (fun j h => by rcases h with h | rfl; (· exact W1.bnd j h); (· exact hrl))).set6 (N' := N) (b := r) (C.map Nd.i) h1 (.inr rfl) hu (Nat.le_refl _) (by rw [List.length_map]; omega) W1.cap
    refine setA_go W1.ins nle ?_
    ac_rfl
    bv_omega
    have hw : L.length - C.length = L.length - 1 := by
      by_cases h0 : L.length = 0
      · omega
      · have := hk0 h0
        omega
    rw [hw]
    have ht : t < S.length := by
      obtain ⟨w, W, _⟩ := T
      exact W.bnd _ W.own.1
    refine q _ _ _ ⟨_, W2⟩ (fun j h => h) (fun j hj hb hjr => ?_) ?_ kd1 ?_ ?_
    · have htb : j ≠ t := fun z => hb (by rw [z]; obtain ⟨w, W, _⟩ := T; exact W.own.1)
      rw [List.getElem?_set_ne (Ne.symm htb)]
      exact s1.frm j hj hb hjr
    · rw [List.length_set]
      exact s1.len
    · rw [← eC]
      exact ⟨fun x hx => AtN.congr (M := M1) (fun i _ => ⟨rfl, rfl, rfl, rfl⟩) (g1.at_ x hx), g1.nd, g1.wf⟩
    · rw [← eC]
end Mn

/-! Pair: gathering; an item goes, an item moves. -/
namespace Mn
open PySem
def pairUp (kd : Kd) : List Nd → List Nd
  | x :: y :: l => tieN kd x y :: pairUp kd l
  | l => l
def gathL (kd : Kd) (l : List Nd) : List Nd := tieR kd (pairUp kd l)
/-- how much is worked -/
def gathW (l : List Nd) : Nat := l.length - 1
theorem pairUp_len (kd : Kd) : ∀ l : List Nd, (pairUp kd l).length = (l.length + 1) / 2
  | [] => by simp [pairUp]
  | [x] => by simp [pairUp]
  | x :: y :: l => by
    show (pairUp kd l).length + 1 = _
    rw [pairUp_len kd l]
    simp only [List.length_cons]
    omega
theorem pairUp_its (kd : Kd) : ∀ l : List Nd, (itsN (pairUp kd l)).Perm (itsN l)
  | [] => .refl _
  | [x] => .refl _
  | x :: y :: l => by
    show ((tieN kd x y).its ++ itsN (pairUp kd l)).Perm (x.its ++ (y.its ++ itsN l))
    rw [← List.append_assoc]
    exact ((tieN_its kd x y).append_right _).trans (List.Perm.append_left _ (pairUp_its kd l))
theorem pairUp_wf {kd : Kd} (nt : isTwo kd = false) : ∀ {l : List Nd}, (∀ x ∈ l, x.wf kd) → ∀ x ∈ pairUp kd l, x.wf kd
  | [], h, x, hx => h x hx
  | [a], h, x, hx => h x hx
  | a :: b :: l, h, x, hx => by
    rcases List.mem_cons.mp (show x ∈ tieN kd a b :: pairUp kd l from hx) with rfl | hx
    · exact tieN_wf nt (h a (by simp)) (h b (by simp))
    · exact pairUp_wf nt (fun y hy => h y (List.mem_cons_of_mem _ (List.mem_cons_of_mem _ hy))) x hx
theorem pairUp_app (kd : Kd) : ∀ (j : Nat) (A B : List Nd), A.length = 2 * j → pairUp kd (A ++ B) = pairUp kd A ++ pairUp kd B
  | 0, A, B, h => by
    have : A = [] := List.length_eq_zero_iff.mp (by omega)
    subst this
    rfl
  | j + 1, A, B, h => by
    match A, h with
    | x :: y :: A, h =>
      show tieN kd x y :: pairUp kd (A ++ B) = tieN kd x y :: (pairUp kd A ++ pairUp kd B)
      rw [pairUp_app kd j A B (by simp at h; omega)]
    | [x], h =>
      have : 1 = 2 * (j + 1) := h
      omega
    | [], h => simp at h
theorem gathL_its (kd : Kd) (l : List Nd) : (itsN (gathL kd l)).Perm (itsN l) := (tieR_its kd _).trans (pairUp_its kd l)
theorem gathL_wf {kd : Kd} (nt : isTwo kd = false) {l : List Nd} (h : ∀ x ∈ l, x.wf kd) : ∀ x ∈ gathL kd l, x.wf kd := tieR_wf nt (pairUp_wf nt h)
theorem rng2_get {a b : Int} {i : Nat} {d : D} (h : (rng2L a b)[i]? = some d) : i < ((b - a + 1) / 2).toNat ∧ d = .int (a + 2 * i) := by
  unfold rng2L at h
  rw [List.getElem?_map] at h
  cases e : (List.range ((b - a + 1) / 2).toNat)[i]? with
  | none => rw [e] at h; cases h
  | some k =>
    rw [e] at h
    have h1 := (List.getElem?_eq_some_iff.mp e).1
    have h2 := (List.getElem?_eq_some_iff.mp e).2
    rw [List.length_range] at h1
    rw [List.getElem_range] at h2
    subst h2
    cases h
    exact ⟨h1, rfl⟩
theorem rng2_len (a b : Int) : (rng2L a b).length = ((b - a + 1) / 2).toNat := by unfold rng2L; simp
theorem szN_perm {l m : List Nd} (p : l.Perm m) : szN l = szN m := by
  unfold szN
  exact (p.map Nd.sz).sum_nat
theorem gathered_ok (m : Nat) {S : Store} {t N b a6 : Nat} {B : Nat → Prop} {M : TM} {L R : List Nd} {Q : DK} {X : XK} (T : TabR S t B N M a6) (nt : isTwo M.kind = false) (g : Grv M (L ++ R)) (hs : szN (L ++ R) ≤ 2000) (hb : S[b]? = some (.lst (L.map inI))) (hbb : ¬ B b)
    (q : ∀ S' M' ra, TabR S' t B N M' a6 → Step B B S S' → M'.kind = M.kind → M'.roots = M.roots → Grv M' (gathL M.kind L ++ R) → S.length ≤ ra → S'[ra]? = some (.lst ((gathL M.kind L).map inI)) → Q (.tup [.ref ra, .int (gathW L : Nat)]) S') : callN PP (m + 5) f_gathered [.ref t, .ref b] S Q X := by
  have hll := szN_len (L ++ R)
  rw [List.length_append] at hll
  refine enter rfl rfl ?_
  show wpCs _ k_gathered_0 _ [some (.ref t), some (.ref b), none, none, none, none] S
  bv_omega
  bv_omega
  have T1 := T.push [.lst []]
  have hr1 := last_get S (.lst [])
  have hb1 := get_push hb [.lst []]
  have hrn : ¬ B S.length := by
    obtain ⟨w, W, _⟩ := T
    exact fun z => Nat.lt_irrefl _ (W.bnd _ z)
  have hle : S.length ≤ S.length := Nat.le_refl _
  have hbr : b ≠ S.length := Nat.ne_of_lt (get_lt hb)
  have s1 : Step B B S (S ++ [.lst []]) := Step.push _
  generalize S ++ [.lst []] = S1 at T1 hr1 hb1 s1 ⊢
  generalize hr0 : S.length = r at hr1 hrn hle hbr ⊢
  bv_omega
  refine len_go hb1 (by rw [List.length_map]; omega) ?_
  rw [List.length_map]
  ac_rfl
  refine rng_go (by decide) (by decide) (by omega) (by omega) ?_
  refine forB_at _ (fun j ρ S' => ∃ (M1 : TM) (x4 x5 : Option D), ρ = [some (.ref t), some (.ref b), some (.int ((L.take (2 * j)).length / 2 : Nat)), some (.ref r), x4, x5] ∧ TabR S' t B N M1 a6 ∧ Step B B S S' ∧ M1.kind = M.kind ∧ M1.roots = M.roots ∧ Grv M1 (pairUp M.kind (L.take (2 * j)) ++ (L.drop (2 * j) ++ R)) ∧ S'[r]? = some (.lst ((pairUp M.kind (L.take (2 * j))).map inI)) ∧ S'[b]? = some (.lst (L.map inI))) (fun _ _ _ _ => trivial) ?_ ?_
    ⟨M, none, none, by simp, T1, s1, rfl, rfl, g, hr1, hb1⟩
  · rintro ρ S2 ⟨M1, x4, x5, rfl, T2, s2, kd2, ro2, g2, hr2, hb2⟩
    rw [rng2_len] at g2 hr2 ⊢
    have hall : L.take (2 * (((L.length : Int) - 0 + 1) / 2).toNat) = L := List.take_of_length_le (by omega)
    rw [hall] at g2 hr2 ⊢
    have hdr : L.drop (2 * (((L.length : Int) - 0 + 1) / 2).toNat) = [] := List.drop_eq_nil_of_le (by omega)
    rw [hdr, List.nil_append] at g2
    generalize hP : pairUp M.kind L = P at g2 hr2
    have hPl : P.length = (L.length + 1) / 2 := by rw [← hP]; exact pairUp_len _ _
    ac_rfl
    bv_omega
    refine whB_at (fun k ρ S' => ∃ (M1 : TM) (C : List Nd) (x5 : Option D), ρ = [some (.ref t), some (.ref b), some (.int (L.length - C.length : Nat)), some (.ref r), x4, x5] ∧ TabR S' t B N M1 a6 ∧ Step B B S S' ∧ M1.kind = M.kind ∧ M1.roots = M.roots ∧ Grv M1 (C ++ R) ∧ S'[r]? = some (.lst (C.map inI)) ∧ tieR M.kind C = tieR M.kind P ∧ C.length = k ∧ k ≤ P.length ∧ szN (C ++ R) = szN (L ++ R) ∧ (P.length ≠ 0 → k ≠ 0)) ?_ P.length
      ⟨M1, P, x5, ?_, T2, s2, kd2, ro2, g2, hr2, rfl, rfl, Nat.le_refl _, ?_, fun h => h⟩
    · rintro k ρ S3 ⟨M3, C, x5, rfl, T3, s3, kd3, ro3, g3, h3, e3, ek, hk, hsz, hk0⟩ N2 hN2
      ac_rfl
      refine len_go h3 (by rw [List.length_map]; omega) ?_
      rw [List.length_map]
      ac_rfl
      by_cases hlt : 1 < C.length
      · rw [show decide ((1 : Int) < (C.length : Int)) = true from decide_eq_true (by omega)]
        obtain ⟨A, x, y, rfl⟩ := last2 hlt
        have szs := g3.szs (n := 2000) (by omega)
        have hA2 : (A ++ [x, y]).length = A.length + 2 := by simp
        show wpCs _ k_gathered_3a0 _ _ _
        bv_omega
        have em : (A ++ [x, y]).map inI = (A.map inI ++ [inI x]) ++ [inI y] := by simp
        rw [em] at h3
        refine ⟨recv_l h3, pop_go h3 ?_⟩
        have T4 := T3.setO (.lst (A.map inI ++ [inI x])) hrn
        have h4 : (S3.set r (.lst (A.map inI ++ [inI x])))[r]? = _ := get_set h3
        have s4 := s3.setN (.lst (A.map inI ++ [inI x])) (n := r) (by omega)
        generalize S3.set r (.lst (A.map inI ++ [inI x])) = S4 at T4 h4 s4 ⊢
        have p1 : (A ++ [x, y] ++ R).Perm (x :: y :: (A ++ R)) := by
          rw [List.append_assoc]
          refine (List.perm_append_comm (l₁ := A)).trans ?_
          show ([x, y] ++ R ++ A).Perm _
          rw [List.append_assoc]
          exact List.Perm.append_left [x, y] List.perm_append_comm
        have g4 := g3.perm p1
        ac_rfl
        bv_omega
        refine neg1_get h4 ?_
        show callN PP (m + 4) f_tie [.ref t, .int x.i, .int y.i] S4 _ _
        have nt3 : isTwo M3.kind = false := by rw [kd3]; exact nt
        refine tie_ok m T4 nt3 (g4.at_ x (by simp)) (g4.at_ y (by simp)) (g4.wf x (by simp)) (g4.wf y (by simp)) (by have := szs x (by simp); omega) (by have := szs y (by simp); omega) fun S5 T5 s5 => ?_
        obtain ⟨h5, _⟩ := s5.get h4 hrn
        have g5 := Grv.tie nt3 g4
        ac_rfl
        refine neg1_set h5 ?_
        have T6 := T5.setO (.lst (A.map inI ++ [.int (wl x y).1.i])) hrn
        have s6 := (s4.trans s5).setN (.lst (A.map inI ++ [.int (wl x y).1.i])) (n := r) (by omega)
        have h6 : (S5.set r (.lst (A.map inI ++ [.int (wl x y).1.i])))[r]? = _ := get_set h5
        ac_rfl
        bv_omega
        refine hN2 (A.length + 1) _ _ (by omega) ⟨_, A ++ [tieN M.kind x y], some (inI y), ?_, T6, s6, kd3, ro3, ?_, ?_, ?_, by simp, by omega, ?_, fun _ => by omega⟩
        · have e5 : ((L.length - (A ++ [x, y]).length : Nat) : Int) + 1 = ((L.length - (A ++ [tieN M.kind x y]).length : Nat) : Int) := by
            rw [hA2, List.length_append]
            show _ = ((L.length - (A.length + 1) : Nat) : Int)
            omega
          rw [e5]
        · rw [← kd3]
          refine g5.perm ?_
          rw [List.append_assoc]
          exact List.perm_middle.symm
        · rw [h6, List.map_append, ← kd3]
          rfl
        · rw [← tieR_two]
          exact e3
        · rw [← hsz, szN_app, szN_app (A ++ [x, y]), szN_tie]
      · rw [show decide ((1 : Int) < (C.length : Int)) = false from decide_eq_false (by omega)]
        have eC : C = gathL M.kind L := by
          show C = tieR M.kind (pairUp M.kind L)
          rw [hP, ← e3, tieR_one _ (by omega)]
        ac_rfl
        bv_omega
        have hw : L.length - C.length = gathW L := by
          show _ = L.length - 1
          by_cases h0 : P.length = 0
          · omega
          · have := hk0 h0
            omega
        rw [hw]
        rw [eC] at g3 h3
        exact q S3 M3 r T3 s3 kd3 ro3 g3 (by omega) h3
    · have : L.length / 2 = L.length - P.length := by omega
      rw [this]
    · rw [szN_app, szN_app]
      congr 1
      rw [← hP, ← itsN_len, ← itsN_len]
      exact (pairUp_its M.kind L).length_eq
  · rintro j d hd ρ S2 ⟨M1, x4, x5, rfl, T2, s2, kd2, ro2, g2, hr2, hb2⟩ N2 hN2
    obtain ⟨hj, rfl⟩ := rng2_get hd
    have hjl : 2 * j < L.length := by omega
    obtain ⟨x, hx⟩ : ∃ x, L[2 * j]? = some x := ⟨_, List.getElem?_eq_getElem hjl⟩
    have htl : (L.take (2 * j)).length = 2 * j := by rw [List.length_take]; omega
    have hbx : (L.map inI)[2 * j]? = some (.int x.i) := by rw [List.getElem?_map, hx]; rfl
    have e0 : (0 : Int) + 2 * (j : Int) = ((2 * j : Nat) : Int) := by omega
    rw [e0]
    refine ⟨_, rfl, ?_⟩
    bv_omega
    have hpl : (pairUp M.kind (L.take (2 * j))).length ≤ 2000 := by rw [pairUp_len, htl]; omega
    refine ⟨recv_l hr2, ixn_go hb2 rfl hbx (append_go hr2 (by rw [List.length_map]; omega) ?_)⟩
    generalize hP : pairUp M.kind (L.take (2 * j)) = P at g2 hr2 hpl ⊢
    have T3 := T2.setO (.lst (P.map inI ++ [.int x.i])) hrn
    have h3 : (S2.set r (.lst (P.map inI ++ [.int x.i])))[r]? = _ := get_set hr2
    have hb3 : (S2.set r (.lst (P.map inI ++ [.int x.i])))[b]? = _ := get_set_ne hb2 (Ne.symm hbr)
    have s3 := s2.setN (.lst (P.map inI ++ [.int x.i])) (n := r) (by omega)
    generalize S2.set r (.lst (P.map inI ++ [.int x.i])) = S3 at T3 h3 hb3 s3 ⊢
    ac_rfl
    bv_omega
    refine len_go hb3 (by rw [List.length_map]; omega) ?_
    rw [List.length_map]
    ac_rfl
    have hdx : L.drop (2 * j) = x :: L.drop (2 * j + 1) := by rw [List.drop_eq_getElem_cons hjl]; congr 1; have := List.getElem?_eq_getElem hjl; rw [hx] at this; exact (Option.some.inj this).symm
    by_cases hlt : 2 * j + 1 < L.length
    · rw [show decide (((2 * j : Nat) : Int) + 1 < (L.length : Int)) = true from decide_eq_true (by omega)]
      obtain ⟨y, hy⟩ : ∃ y, L[2 * j + 1]? = some y := ⟨_, List.getElem?_eq_getElem hlt⟩
      have hdy : L.drop (2 * j + 1) = y :: L.drop (2 * j + 2) := by rw [List.drop_eq_getElem_cons hlt]; congr 1; have := List.getElem?_eq_getElem hlt; rw [hy] at this; exact (Option.some.inj this).symm
      have hby : (L.map inI)[2 * j + 1]? = some (.int y.i) := by rw [List.getElem?_map, hy]; rfl
      rw [hdx, hdy] at g2
      have p1 : (P ++ (x :: y :: L.drop (2 * j + 2) ++ R)).Perm (x :: y :: (P ++ (L.drop (2 * j + 2) ++ R))) := by
        show (P ++ (x :: (y :: L.drop (2 * j + 2) ++ R))).Perm _
        refine List.perm_middle.trans (List.Perm.cons _ ?_)
        exact List.perm_middle
      have g3 := g2.perm p1
      have nt1 : isTwo M1.kind = false := by rw [kd2]; exact nt
      have hmem : ∀ z, z ∈ L → z.sz ≤ 2000 := g.szs hs |> fun h z hz => h z (List.mem_append_left _ hz)
      show wpCs _ k_gathered_2a1a0 _ _ _
      bv_omega
      refine ixn_go hb3 rfl hbx ?_
      ac_rfl
      refine ixn_go (j := 2 * j + 1) hb3 (by omega) hby ?_
      refine tie_ok m T3 nt1 (g3.at_ x (by simp)) (g3.at_ y (by simp)) (g3.wf x (by simp)) (g3.wf y (by simp)) (by have := hmem x (List.mem_of_getElem? hx); omega) (by have := hmem y (List.mem_of_getElem? hy); omega) fun S4 T4 s4 => ?_
      obtain ⟨h4, _⟩ := s4.get h3 hrn
      obtain ⟨hb4, _⟩ := s4.get hb3 hbb
      have g4 := Grv.tie nt1 g3
      ac_rfl
      refine neg1_set h4 ?_
      have T5 := T4.setO (.lst (P.map inI ++ [.int (wl x y).1.i])) hrn
      have s5 := (s3.trans s4).setN (.lst (P.map inI ++ [.int (wl x y).1.i])) (n := r) (by omega)
      have h5 : (S4.set r (.lst (P.map inI ++ [.int (wl x y).1.i])))[r]? = _ := get_set h4
      have hb5 : (S4.set r (.lst (P.map inI ++ [.int (wl x y).1.i])))[b]? = _ := get_set_ne hb4 (Ne.symm hbr)
      have tk2 : L.take (2 * (j + 1)) = L.take (2 * j) ++ [x, y] := by
        rw [show 2 * (j + 1) = 2 * j + 1 + 1 by omega, List.take_add_one, List.take_add_one, hx, hy]
        simp
      have ep : pairUp M.kind (L.take (2 * (j + 1))) = P ++ [tieN M.kind x y] := by
        rw [tk2, pairUp_app M.kind j _ _ htl, hP]
        rfl
      ac_rfl
      bv_omega
      refine hN2 _ _ ⟨_, some (.int ((2 * j : Nat) : Int)), x5, ?_, T5, s5, kd2, ro2, ?_, ?_, hb5⟩
      · rw [htl]
        have e6 : ((2 * j / 2 : Nat) : Int) + 1 = (((L.take (2 * (j + 1))).length / 2 : Nat) : Int) := by
          rw [tk2, List.length_append, htl]
          show _ = (((2 * j + 2) / 2 : Nat) : Int)
          omega
        rw [e6]
      · rw [ep, ← kd2]
        refine g4.perm ?_
        rw [show 2 * (j + 1) = 2 * j + 2 by omega, List.append_assoc]
        exact List.perm_middle.symm
      · rw [h5, ep, List.map_append, ← kd2]
        rfl
    · rw [show decide (((2 * j : Nat) : Int) + 1 < (L.length : Int)) = false from decide_eq_false (by omega)]
      have tk2 : L.take (2 * (j + 1)) = L.take (2 * j) ++ [x] := by
        rw [show 2 * (j + 1) = 2 * j + 1 + 1 by omega, List.take_add_one, List.take_add_one, hx, List.getElem?_eq_none (by omega)]
        simp
      have ep : pairUp M.kind (L.take (2 * (j + 1))) = P ++ [x] := by
        rw [tk2, pairUp_app M.kind j _ _ htl, hP]
        rfl
      have hd1 : L.drop (2 * j + 1) = [] := List.drop_eq_nil_of_le (by omega)
      have hd2 : L.drop (2 * (j + 1)) = [] := List.drop_eq_nil_of_le (by omega)
      ac_rfl
      refine hN2 _ _ ⟨M1, some (.int ((2 * j : Nat) : Int)), x5, ?_, T3, s3, kd2, ro2, ?_, ?_, hb3⟩
      · rw [htl]
        have e6 : ((2 * j / 2 : Nat) : Int) = (((L.take (2 * (j + 1))).length / 2 : Nat) : Int) := by
          rw [tk2, List.length_append, htl]
          show _ = (((2 * j + 1) / 2 : Nat) : Int)
          omega
        rw [e6]
      · rw [ep, hd2]
        rw [hdx, hd1] at g2
        rw [List.append_assoc]
        exact g2
      · rw [h3, ep, List.map_append]
        rfl
end Mn

/-! Pair: what is done in the table. -/
namespace Mn
open PySem
theorem tied_new (m : Nat) {S : Store} {t N : Nat} {B : Nat → Prop} {M : TM} {L : List Nd} {Q : DK} {X : XK} (T : Tab S t B N M) (hN : 1 ≤ N) (nt : isTwo M.kind = false) (g : Grv M L) (hs : szN L ≤ 2000)
    (q : ∀ S' B' M', Tab S' t B' N M' → Step B B' S S' → M'.kind = M.kind → Grv M' (tieR M.kind L) → M'.roots = (tieR M.kind L).map Nd.i → Q (.int (L.length - 1 : Nat)) S') : callN PP (m + 5) f_tied_all [.ref t, .ref S.length] (S ++ [.lst (L.map inI)]) Q X := by
  have hb : ¬ B S.length := by
    obtain ⟨w, W⟩ := T
    exact fun z => Nat.lt_irrefl _ (W.bnd _ z)
  refine tied_all_ok m (T.push _) hN nt g hs (last_get _ _) hb fun S' B' M' T' h1 h2 h3 h4 h5 h6 => q S' B' M' T' ⟨fun j h => ?_, ?_, fun j hj hb => ?_⟩ h4 h5 h6
  · rcases h1 j h with z | z
    · exact .inl z
    · exact .inr (by omega)
  · rw [List.length_append] at h3
    omega
  · rw [h2 j (by rw [List.length_append]; omega) hb (by omega), List.getElem?_append_left hj]
theorem aj_pair (m : Nat) {A C : List Nd} (hs : szN (A ++ C) ≤ 2000) : AJ .pair (m + 6) A C (tieR .pair (A ++ C)) ((A ++ C).length - 1 : Nat) := by
  intro S t N ra B M Q X T kd hN h1 g er hra hrb q
  obtain ⟨w, W⟩ := id T
  have hl := szN_len (A ++ C)
  rw [List.length_append] at hl
  refine enter rfl rfl ?_
  show wpCs _ k_all_joined_0 _ [some (.ref t), some (.ref ra)] S
  bv_omega
  refine attr_go W.ins (tb_kind M w) ?_
  refine kd_in (a := .left) (b := .skew) ?_
  rw [kd]
  show wpCs _ k_all_joined_1 _ _ _
  bv_omega
  refine attr_go W.ins (tb_kind M w) ?_
  refine kd_eq (b := .pair) ?_
  rw [kd]
  show wpCs _ k_all_joined_1a0 _ _ _
  bv_omega
  refine attr_go W.ins (tb_roots M w) ?_
  have r6 := W.r6
  have em : M.roots.map D.int = A.map inI := by rw [er, List.map_map]; rfl
  rw [em] at r6
  refine addl_go r6 hra (by rw [List.length_map, List.length_map]; omega) ?_
  rw [← List.map_append]
  refine tied_new m T h1 (by rw [kd]; rfl) g hs fun S' B' M' T' s' k' g' r' => ?_
  rw [kd] at k' g' r'
  exact q S' B' M' T' s' k' g' r'
/-- what is left of a tree -/
def leftR : List RFr → List Nd
  | [] => []
  | f :: fs => [plugR fs f.cutN]
def goneP (fs : List RFr) (x : Nd) : List Nd := tieR .pair (leftR fs ++ gathL .pair x.c.nds)
def goneW (fs : List RFr) (x : Nd) : Nat := gathW x.c.nds + ((leftR fs ++ gathL .pair x.c.nds).length - 1)
theorem um_id {kd : Kd} {x : Nd} (h : x.wf kd) (hc : isCut kd = false) : x.um = x := by
  obtain ⟨k, i, m, c⟩ := x
  have : m = false := h.2.1 hc
  subst this
  rfl
theorem um_map {kd : Kd} (hc : isCut kd = false) : ∀ {l : List Nd}, (∀ x ∈ l, x.wf kd) → l.map Nd.um = l
  | [], _ => rfl
  | x :: l, h => by rw [List.map_cons, um_id (h x List.mem_cons_self) hc, um_map hc fun y hy => h y (List.mem_cons_of_mem _ hy)]
theorem nd_allc (x : Nd) : x.all = x.i :: allN x.c.nds := by
  show x.i :: x.c.all = _
  rw [F.nds_all]
  rfl
theorem freed_grv {M : TM} {x : Nd} {R : List Nd} (g : Grv M (x :: R)) : Grv (({ M with kids := fset M.kids x.i [] } : TM).frees x.c.nds) (x.c.nds.map Nd.um ++ R) := by
  obtain ⟨n1, n2, n3⟩ := List.nodup_append.mp (show (x.all ++ allN R).Nodup from g.nd)
  have n1' := n1
  rw [nd_allc] at n1'
  obtain ⟨n4, n5⟩ := List.nodup_cons.mp n1'
  obtain ⟨b1, b2, b3, b4, b5⟩ := frees_base x.c.nds ({ M with kids := fset M.kids x.i [] } : TM)
  generalize hM3 : ({ M with kids := fset M.kids x.i [] } : TM) = M3 at b1 b2 b3 b4 b5 ⊢
  have e3 : M3.kind = M.kind ∧ M3.key = M.key ∧ M3.up = M.up ∧ M3.mark = M.mark := by rw [← hM3]; exact ⟨rfl, rfl, rfl, rfl⟩
  have ek : ∀ i, i ≠ x.i → M3.kids i = M.kids i := fun i hi => by rw [← hM3]; exact fset_ne _ _ hi
  obtain ⟨a1, a2, a3, a4, a5⟩ := g.at_ x List.mem_cons_self
  have hk := atF_iff.mp a5
  -- away from the children all stays
  have out : ∀ i, i ≠ x.i → (∀ y ∈ x.c.nds, y.i ≠ i) → Same M (M3.frees x.c.nds) i := fun i hi hy => by
    obtain ⟨h1, h2⟩ := frees_out x.c.nds M3 hy
    exact ⟨by rw [b2, e3.2.1], by rw [b3, ek i hi], by rw [h1, e3.2.2.1], by rw [h2, e3.2.2.2]⟩
  have eN : allN (x.c.nds.map Nd.um) = allN x.c.nds := by
    unfold allN
    rw [List.map_map]
    rfl
  refine ⟨fun y hy => ?_, ?_, fun y hy => ?_⟩
  · rcases List.mem_append.mp hy with h | h
    · obtain ⟨z, hz, rfl⟩ := List.mem_map.mp h
      obtain ⟨c1, c2, c3, c4, c5⟩ := hk z hz
      have zx : z.i ≠ x.i := fun e => n4 (mem_allN.mpr ⟨z, hz, by rw [← e]; simp [Nd.all]⟩)
      obtain ⟨h1, h2⟩ := frees_in (i := z.i) x.c.nds M3 ⟨z, hz, rfl⟩
      refine ⟨by show (M3.frees x.c.nds).key z.i = _; rw [b2, e3.2.1]; exact c1, by show (M3.frees x.c.nds).kids z.i = _; rw [b3, ek _ zx]; exact c2, h1, h2, ?_⟩
      refine AtF.congr (M := M) (fun i hi => out i (fun e => n4 (mem_allN.mpr ⟨z, hz, by rw [← e]; exact List.mem_cons_of_mem _ hi⟩)) fun y2 hy2 e => ?_) c5
      -- an inner ticket is no child's
      have : (allN x.c.nds).Nodup := n5
      obtain ⟨l1, l2, el⟩ := List.append_of_mem hz
      rw [el, allN_app, allN_cons] at this
      obtain ⟨m1, m2, m3⟩ := List.nodup_append.mp this
      obtain ⟨m4, m5, m6⟩ := List.nodup_append.mp m2
      have iz : i ∈ z.all := List.mem_cons_of_mem _ hi
      rw [el] at hy2
      rcases List.mem_append.mp hy2 with w | w
      · exact m3 y2.i (mem_allN.mpr ⟨y2, w, by simp [Nd.all]⟩) i (List.mem_append_left _ iz) e
      · rcases List.mem_cons.mp w with w | w
        · rw [w] at e
          have := (List.nodup_cons.mp (show (z.i :: z.c.all).Nodup from m4)).1
          exact this (by rw [e]; exact hi)
        · exact m6 i iz y2.i (mem_allN.mpr ⟨y2, w, by simp [Nd.all]⟩) e.symm
    · refine (g.at_ y (List.mem_cons_of_mem _ h)).congr fun i hi => out i (fun e => n3 x.i (by simp [Nd.all]) i (mem_allN.mpr ⟨y, h, hi⟩) e.symm) fun y2 hy2 e => n3 y2.i ?_ i (mem_allN.mpr ⟨y, h, hi⟩) e
      rw [nd_allc]
      exact List.mem_cons_of_mem _ (mem_allN.mpr ⟨y2, hy2, by simp [Nd.all]⟩)
  · rw [allN_app, eN]
    refine List.nodup_append.mpr ⟨n5, n2, fun a ha b hb => n3 a ?_ b hb⟩
    rw [nd_allc]
    exact List.mem_cons_of_mem _ ha
  · rw [b1, e3.1]
    rcases List.mem_append.mp hy with h | h
    · obtain ⟨z, hz, rfl⟩ := List.mem_map.mp h
      exact um_wf (F.nds_wf (g.wf x List.mem_cons_self).2.2 z hz)
    · exact g.wf y (List.mem_cons_of_mem _ h)
/-- a tree no more where it stood: two loose trees -/
theorem loose_grv {M : TM} {x : Nd} {f : RFr} {fs : List RFr} {R : List Nd} (nt : isTwo M.kind = false) (g : Grv M (plugR (f :: fs) x :: R)) : Grv (M.loose f x.i) (x :: plugR fs f.cutN :: R) := by
  have hx := g.at_ _ List.mem_cons_self
  obtain ⟨n1, n2, n3⟩ := List.nodup_append.mp (show ((plugR (f :: fs) x).all ++ allN R).Nodup from g.nd)
  obtain ⟨h1, h2⟩ := loose_at hx n1
  have p0 := plugR_all (f :: fs) x
  have p1 : (x.all ++ (plugR fs f.cutN).all).Perm (plugR (f :: fs) x).all := by
    refine List.Perm.trans (List.Perm.append_left _ ?_) p0.symm
    refine (plugR_all fs f.cutN).trans ?_
    show (f.cutN.all ++ rfT fs).Perm (f.j :: (allN f.pre ++ allN f.post ++ rfT fs))
    rw [nd_allc, show f.cutN.c.nds = f.pre ++ f.post from ofL_nds _, allN_app]
    exact .refl _
  have wx := g.wf _ List.mem_cons_self
  refine ⟨fun y hy => ?_, ?_, fun y hy => ?_⟩
  · rcases List.mem_cons.mp hy with h | h
    · rw [h]
      exact h1
    · rcases List.mem_cons.mp h with h | h
      · rw [h]
        exact h2
      · refine (g.at_ y (List.mem_cons_of_mem _ h)).congr fun i hi => ?_
        have hn : i ∉ (plugR (f :: fs) x).all := fun z => n3 i z i (mem_allN.mpr ⟨y, h, hi⟩) rfl
        have e1 : i ≠ x.i := fun e => hn (p0.symm.subset (by rw [e]; simp [Nd.all]))
        have e2 : i ≠ f.j := fun e => hn (p0.symm.subset (by rw [e]; simp [rfT]))
        exact ⟨rfl, fset_ne _ _ e2, fset_ne _ _ e1, rfl⟩
  · rw [allN_cons, allN_cons, ← List.append_assoc]
    exact (p1.append_right _).nodup_iff.mpr g.nd
  · show y.wf M.kind
    rcases List.mem_cons.mp hy with h | h
    · rw [h]
      have go : ∀ (fs : List RFr) (x : Nd), (plugR fs x).wf M.kind → x.wf M.kind := by
        intro fs
        induction fs with
        | nil => exact fun x h => h
        | cons f fs ih =>
          intro x h
          have h := ih (f.plug x) h
          have := F.nds_wf h.2.2 x
          rw [show (f.plug x).c.nds = f.pre ++ x :: f.post from ofL_nds _] at this
          exact this (by simp)
      exact go (f :: fs) x wx
    · rcases List.mem_cons.mp h with h | h
      · rw [h]
        refine plugR_wf fs (x := f.plug x) nt wx fun hf => ?_
        have hn := F.nds_wf hf.2.2
        have e : (f.plug x).c.nds = f.pre ++ x :: f.post := ofL_nds _
        rw [e] at hn
        refine ⟨fun z => (by rw [nt] at z; cases z), hf.2.1, ofL_wf fun z hz => hn z ?_⟩
        rcases List.mem_append.mp hz with h | h <;> simp [h]
      · exact g.wf y (List.mem_cons_of_mem _ h)
theorem pair_gone_ok (m : Nat) {S : Store} {t N : Nat} {B : Nat → Prop} {M : TM} {x : Nd} {fs : List RFr} {Q : DK} {X : XK} (T : Tab S t B N M) (kd : M.kind = .pair) (hN : 1 ≤ N) (g : Grv M [plugR fs x]) (er : M.roots = [(plugR fs x).i]) (hs : szN [plugR fs x] ≤ 2000)
    (q : ∀ S' B' M', Tab S' t B' N M' → Step B B' S S' → M'.kind = .pair → Grv M' (goneP fs x) → M'.roots = (goneP fs x).map Nd.i → Q (.int (goneW fs x : Nat)) S') : callN PP (m + 6) f_pair_taken_out [.ref t, .int x.i] S Q X := by
  have nt : isTwo M.kind = false := by rw [kd]; rfl
  have szp : ∀ L : List Nd, (allN L).length ≤ (allN [plugR fs x]).length → szN L ≤ 2000 := fun L h => by rw [allN_sz, allN_sz] at h; omega
  have ax := (at_plugR fs (g.at_ _ List.mem_cons_self)).1
  have hup : M.up x.i = some (rfUp none fs) := ax.2.2.1
  refine enter rfl rfl ?_
  show wpCs _ k_pair_taken_out_0 _ [some (.ref t), some (.int x.i), none, none, none] S
  bv_omega
  have T1 := T.push [.lst []]
  have s1 : Step B B S (S ++ [.lst []]) := Step.push _
  have hl1 := last_get S (.lst [])
  have hlb : ¬ B S.length := by
    obtain ⟨w, W⟩ := T
    exact fun z => Nat.lt_irrefl _ (W.bnd _ z)
  generalize S ++ [.lst []] = S1 at T1 s1 hl1 ⊢
  generalize S.length = la at hl1 hlb ⊢
  -- from the children on
  have rest : ∀ (S2 : Store) (M2 : TM) (R : List Nd) (lf a6 : Nat), TabR S2 t B N M2 a6 → Step B B S S2 → M2.kind = .pair → Grv M2 (x :: R) → szN (x :: R) ≤ 2000 → R = leftR fs → ((lf = a6 ∧ M2.roots = R.map Nd.i) ∨ (¬ B lf ∧ S2[lf]? = some (.lst (R.map inI)))) → wpCs (callN PP (m + 5)) k_pair_taken_out_2 (rtEnds Q X) [some (.ref t), some (.int x.i), some (.ref lf), none, none] S2 := by
    intro S2 M2 R lf a6 T2 s2 kd2 g2 hs2 eR hlf
    have nt2 : isTwo M2.kind = false := by rw [kd2]; rfl
    have wx := g2.wf x List.mem_cons_self
    have hsx : x.sz ≤ 5000 := by rw [szN_cons] at hs2; omega
    bv_omega
    refine freed_ok (m + 4) T2 nt2 (g2.at_ x List.mem_cons_self) wx hsx fun S3 B3 ra T3 s3 nb3 h3 => ?_
    have g3 := freed_grv g2
    have kids_wf : ∀ y ∈ x.c.nds, y.wf .pair := by rw [← kd2]; exact F.nds_wf wx.2.2
    rw [um_map (kd := .pair) rfl kids_wf] at g3
    obtain ⟨b1, b2, b3, b4, b5⟩ := frees_base x.c.nds ({ M2 with kids := fset M2.kids x.i [] } : TM)
    generalize ({ M2 with kids := fset M2.kids x.i [] } : TM).frees x.c.nds = M3 at T3 g3 b1 b5
    have kd3 : M3.kind = .pair := by rw [b1]; exact kd2
    have ro3 : M3.roots = M2.roots := b5
    have hs3 : szN (x.c.nds ++ R) ≤ 2000 := by
      rw [szN_app, F.nds_sz]
      have e : x.sz = x.c.sz + 1 := rfl
      rw [szN_cons] at hs2
      omega
    ac_rfl
    refine gathered_ok m T3 (by rw [kd3]; rfl) g3 hs3 h3 nb3 fun S4 M4 rb T4 s4 kd4 ro4 g4 hrb h4 => ?_
    rw [kd3] at kd4 g4 h4
    ac_rfl
    bv_omega
    have hlf4 : S4[lf]? = some (.lst (R.map inI)) := by
      rcases hlf with ⟨e, er2⟩ | ⟨nb, h⟩
      · obtain ⟨w4, W4, e4⟩ := T4
        have := W4.r6
        rw [e4, ro4, ro3, er2, ← e, List.map_map] at this
        exact this
      · have nb' : ¬ B3 lf := fun z => by
          rcases s3.own lf z with w | w
          · exact nb w
          · have := get_lt h
            omega
        exact (s4.get (s3.get h nb).1 nb').1
    have hlen := szN_len (gathL .pair x.c.nds ++ R)
    have hszg : szN (gathL .pair x.c.nds ++ R) ≤ 2000 := by
      rw [szN_app, ← itsN_len, (gathL_its .pair x.c.nds).length_eq, itsN_len, ← szN_app]
      exact hs3
    rw [List.length_append] at hlen
    refine addl_go hlf4 h4 (by rw [List.length_map, List.length_map]; omega) ?_
    rw [← List.map_append]
    have pc : (gathL .pair x.c.nds ++ R).Perm (R ++ gathL .pair x.c.nds) := List.perm_append_comm
    refine tied_new m T4.t hN (by rw [kd4]; rfl) (g4.perm pc) (by rw [← szN_perm pc]; exact hszg) fun S5 B5 M5 T5 s5 kd5 g5 r5 => ?_
    rw [kd4] at kd5 g5 r5
    rw [eR] at g5 r5
    ac_rfl
    rw [eR]
    have := q S5 B5 M5 T5 (((s2.trans s3).trans s4).trans s5) kd5 g5 r5
    unfold goneW at this
    rw [Int.natCast_add] at this
    exact this
  cases fs with
  | nil =>
    obtain ⟨a6, T1⟩ := T1.r
    obtain ⟨w1, W1, _⟩ := id T1
    bv_omega
    refine attr_go W1.ins (tb_ups M w1) ?_
    refine ixi_go W1.d3 (W1.g3.some hup) ?_
    show wpCs _ k_pair_taken_out_2 _ _ _
    exact rest S1 M [] la a6 T1 s1 kd g hs rfl (.inr ⟨hlb, hl1⟩)
  | cons f fs =>
    obtain ⟨w1, W1⟩ := id T1
    bv_omega
    refine attr_go W1.ins (tb_ups M w1) ?_
    refine ixi_go W1.d3 (W1.g3.some hup) ?_
    show wpCs _ k_pair_taken_out_1a0 _ _ _
    bv_omega
    have nd1 : (plugR (f :: fs) x).all.Nodup := (List.nodup_append.mp (show ((plugR (f :: fs) x).all ++ allN []).Nodup from g.nd)).1
    refine loosen_ok (m + 4) T1 (g.at_ _ List.mem_cons_self) nd1 fun S2 T2 s2 => ?_
    have g2 := loose_grv nt g
    obtain ⟨a6, T2⟩ := T2.r
    obtain ⟨w2, W2, e2⟩ := id T2
    ac_rfl
    bv_omega
    refine attr_go W2.ins (tb_roots _ w2) ?_
    rw [e2]
    have tops : ∀ (fs : List RFr) (x y : Nd), x.i = y.i → (plugR fs x).i = (plugR fs y).i := by
      intro fs
      induction fs with
      | nil => exact fun x y e => e
      | cons f fs ih => exact fun x y e => ih _ _ rfl
    refine rest S2 (M.loose f x.i) [plugR fs f.cutN] a6 a6 T2 (s1.trans s2) kd g2 ?_ rfl (.inl ⟨rfl, ?_⟩)
    · have e := (plugR_all (f :: fs) x).length_eq
      have e2 := (plugR_all fs f.cutN).length_eq
      refine szp _ ?_
      rw [allN_cons, allN_cons, allN_cons, List.length_append, List.length_append, List.length_append, e, e2, List.length_append, List.length_append, nd_allc f.cutN, show f.cutN.c.nds = f.pre ++ f.post from ofL_nds _, allN_app]
      simp [rfT, allN]
      omega
    · show M.roots = _
      rw [er]
      show [(plugR fs (f.plug x)).i] = [(plugR fs f.cutN).i]
      rw [tops fs (f.plug x) f.cutN rfl]
theorem gn_pair (m : Nat) {fs : List RFr} {x : Nd} (hs : szN [plugR fs x] ≤ 2000) : GN .pair (m + 7) [plugR fs x] x.i (goneP fs x) (goneW fs x : Nat) := by
  intro S t N B M Q X T kd hN h1 g er q
  obtain ⟨w, W⟩ := id T
  refine enter rfl rfl ?_
  show wpCs _ k_gone_0 _ [some (.ref t), some (.int x.i), none] S
  bv_omega
  refine attr_go W.ins (tb_kind M w) ?_
  refine kd_in (a := .left) (b := .skew) ?_
  rw [kd]
  show wpCs _ k_gone_0b0 _ _ _
  bv_omega
  refine attr_go W.ins (tb_kind M w) ?_
  refine kd_eq (b := .pair) ?_
  rw [kd]
  show wpCs _ k_gone_0b0a0 _ _ _
  bv_omega
  refine pair_gone_ok m T kd h1 g er hs fun S' B' M' T' s' k' g' r' => ?_
  ac_rfl
  bv_omega
  exact q S' B' M' T' s' k' g' r'
/-- where a lowered item has to move -/
def movedP (fs : List RFr) (x : Nd) : List Nd × Nat := match fs with
  | [] => ([x], 0)
  | f :: fs => if itLt x.it (f.k, f.j) = true then (tieR .pair [plugR fs f.cutN, x], 1) else ([plugR (f :: fs) x], 0)
theorem mv_pair (m : Nat) {fs : List RFr} {x : Nd} (hs : szN [plugR fs x] ≤ 2000) : MV .pair (m + 7) [plugR fs x] x.i (movedP fs x).1 ((movedP fs x).2 : Nat) := by
  intro S t N B M Q X T kd hN h1 g er q
  obtain ⟨w, W⟩ := id T
  have nt : isTwo M.kind = false := by rw [kd]; rfl
  have hx := g.at_ _ List.mem_cons_self
  have ax := (at_plugR fs hx).1
  have hup : M.up x.i = some (rfUp none fs) := ax.2.2.1
  refine enter rfl rfl ?_
  show wpCs _ k_moved_0 _ [some (.ref t), some (.int x.i), none] S
  bv_omega
  refine attr_go W.ins (tb_ups M w) ?_
  cases fs with
  | nil =>
    refine ixi_go W.d3 (W.g3.some hup) ?_
    show wpCs _ k_moved_1 _ [some (.ref t), some (.int x.i), some .non] S
    bv_omega
    show wpCs _ k_moved_1a0 _ _ _
    bv_omega
    exact q S B M T (Step.refl _ _) kd g er
  | cons f fs =>
    have fk : M.key f.j = some f.k := (at_plugR fs (x := f.plug x) hx).1.1
    refine ixi_go W.d3 (W.g3.some hup) ?_
    show wpCs _ k_moved_1 _ [some (.ref t), some (.int x.i), some (.int f.j)] S
    bv_omega
    refine meth_go W.ins rfl ?_
    refine is_less_ok (m + 4) T ax.1 fk ?_
    unfold movedP at q
    dsimp only at q
    cases hlt : itLt x.it (f.k, f.j) with
    | false =>
      rw [hlt] at q
      rw [show itLt (x.k, x.i) (f.k, f.j) = false from hlt]
      show wpCs _ k_moved_1a0 _ _ _
      bv_omega
      exact q S B M T (Step.refl _ _) kd g er
    | true =>
      rw [hlt] at q
      rw [show itLt (x.k, x.i) (f.k, f.j) = true from hlt]
      show wpCs _ k_moved_2 _ _ _
      bv_omega
      refine attr_go W.ins (tb_kind M w) ?_
      refine kd_in (a := .left) (b := .skew) ?_
      rw [kd]
      show wpCs _ k_moved_3 _ _ _
      bv_omega
      refine attr_go W.ins (tb_kind M w) ?_
      refine kd_eq (b := .pair) ?_
      rw [kd]
      show wpCs _ k_moved_3a0 _ _ _
      bv_omega
      have nd1 : (plugR (f :: fs) x).all.Nodup := (List.nodup_append.mp (show ((plugR (f :: fs) x).all ++ allN []).Nodup from g.nd)).1
      refine enter rfl rfl ?_
      show wpCs _ k_pair_lowered_0 _ [some (.ref t), some (.int x.i)] S
      bv_omega
      refine loosen_ok (m + 4) T hx nd1 fun S2 T2 s2 => ?_
      have g2 := loose_grv nt g
      obtain ⟨w2, W2⟩ := id T2
      have tops : ∀ (fs : List RFr) (x y : Nd), x.i = y.i → (plugR fs x).i = (plugR fs y).i := by
        intro fs
        induction fs with
        | nil => exact fun x y e => e
        | cons f fs ih => exact fun x y e => ih _ _ rfl
      have er2 : (M.loose f x.i).roots = [(plugR fs f.cutN).i] := by
        show M.roots = _
        rw [er]
        show [(plugR fs (f.plug x)).i] = _
        rw [tops fs (f.plug x) f.cutN rfl]
      ac_rfl
      bv_omega
      refine attr_go W2.ins (tb_roots _ w2) ?_
      ac_rfl
      have r6 := W2.r6
      rw [er2] at r6
      refine addl_go (get_push r6 _) (last_get _ _) (by simp) ?_
      have T3 := T2.push [.lst [.int x.i]]
      have s3 := s2.trans (Step.push (B := B) (S := S2) [.lst [.int x.i]])
      generalize S2 ++ [.lst [.int x.i]] = S3 at T3 s3 ⊢
      have hsz : szN [plugR fs f.cutN, x] ≤ 2000 := by
        have e := (plugR_all (f :: fs) x).length_eq
        have e2 := (plugR_all fs f.cutN).length_eq
        rw [← allN_sz] at hs ⊢
        refine Nat.le_trans (Nat.le_of_eq ?_) hs
        rw [allN_cons, allN_cons, allN_cons, List.length_append, List.length_append, List.length_append, e, e2, List.length_append, List.length_append, nd_allc f.cutN, show f.cutN.c.nds = f.pre ++ f.post from ofL_nds _, allN_app]
        simp [rfT, allN]
        omega
      refine tied_new m (L := [plugR fs f.cutN, x]) T3 h1 nt (g2.perm (List.Perm.swap _ _ _)) hsz fun S4 B4 M4 T4 s4 kd4 g4 r4 => ?_
      have kk : (M.loose f x.i).kind = .pair := kd
      rw [kk] at kd4 g4 r4
      exact q S4 B4 M4 T4 (s3.trans s4) kd4 g4 r4
end Mn

/-! Pair heaps that grow. -/
namespace Mn
open PySem
theorem tieR_hp (kd : Kd) {p : Option It2} : ∀ {l : List Nd}, (∀ x ∈ l, x.hp p) → ∀ x ∈ tieR kd l, x.hp p
  | [], _, x, hx => nomatch hx
  | a :: l, h, x, hx => by
    have ih := tieR_hp kd (l := l) fun y hy => h y (List.mem_cons_of_mem _ hy)
    have hx : x ∈ (match tieR kd l with | [] => [a] | y :: _ => [tieN kd a y]) := hx
    split at hx
    · rw [List.mem_singleton.mp hx]
      exact h a List.mem_cons_self
    · rename_i y r e
      rw [List.mem_singleton.mp hx]
      exact tieN_hp kd (h a List.mem_cons_self) (ih y (by rw [e]; exact List.mem_cons_self))
theorem pairUp_hp (kd : Kd) {p : Option It2} : ∀ {l : List Nd}, (∀ x ∈ l, x.hp p) → ∀ x ∈ pairUp kd l, x.hp p
  | [], h, x, hx => h x hx
  | [a], h, x, hx => h x hx
  | a :: b :: l, h, x, hx => by
    rcases List.mem_cons.mp (show x ∈ tieN kd a b :: pairUp kd l from hx) with rfl | hx
    · exact tieN_hp kd (h a (by simp)) (h b (by simp))
    · exact pairUp_hp kd (fun y hy => h y (List.mem_cons_of_mem _ (List.mem_cons_of_mem _ hy))) x hx
theorem gathL_hp (kd : Kd) {p : Option It2} {l : List Nd} (h : ∀ x ∈ l, x.hp p) : ∀ x ∈ gathL kd l, x.hp p := tieR_hp kd (pairUp_hp kd h)
theorem leftR_hp {fs : List RFr} {x : Nd} (h : (plugR fs x).hp none) : hpL (leftR fs) := by
  cases fs with
  | nil => exact fun x hx => nomatch hx
  | cons f fs =>
    intro y hy
    rw [List.mem_singleton.mp hy]
    exact plugR_hp fs (x := f.plug x) h fun q hq => cutN_hp hq
theorem goneP_hp {fs : List RFr} {x : Nd} (h : (plugR fs x).hp none) : hpL (goneP fs x) := by
  obtain ⟨q, hq⟩ := plugR_in fs h
  refine tieR_hp .pair fun y hy => ?_
  rcases List.mem_append.mp hy with z | z
  · exact leftR_hp h y z
  · exact gathL_hp .pair (kids_hp hq) y z
theorem movedP_hp {fs : List RFr} {x : Nd} {k' : Int} (hk : k' ≤ x.k) (h : (plugR fs x).hp none) : hpL (movedP fs (x.rk k')).1 := by
  obtain ⟨q, hq⟩ := plugR_in fs h
  cases fs with
  | nil =>
    intro y hy
    rw [List.mem_singleton.mp hy]
    exact low_hp hk h (leO_none _)
  | cons f fs =>
    unfold movedP
    dsimp only
    split
    · refine tieR_hp .pair fun y hy => ?_
      rcases List.mem_cons.mp hy with z | z
      · rw [z]
        exact leftR_hp (fs := f :: fs) h _ (List.mem_singleton.mpr rfl)
      · rw [List.mem_singleton.mp z]
        exact low_hp hk (nhp_none hq) (leO_none _)
    · rename_i hlt
      intro y hy
      rw [List.mem_singleton.mp hy]
      refine plugR_hp fs (x := f.plug x) h fun q hq => ?_
      obtain ⟨h1, h2, h3⟩ := rplug_hp.mp hq
      exact rplug_hp.mpr ⟨h1, h2, low_hp hk h3 (leO_some (le_of_nlt (p := (x.rk k').it) (by simpa using hlt)))⟩
theorem left_its (fs : List RFr) : (itsN (leftR fs)).Perm (rfI fs) := by
  cases fs with
  | nil => exact .refl _
  | cons f fs =>
    show (itsN [plugR fs f.cutN]).Perm _
    rw [itsN_one]
    refine (plugR_its fs f.cutN).trans ?_
    rw [nd_itsc, show f.cutN.c.nds = f.pre ++ f.post from ofL_nds _, itsN_app]
    exact .refl _
theorem goneP_its (fs : List RFr) (x : Nd) : (x.it :: itsN (goneP fs x)).Perm (itsN [plugR fs x]) := by
  rw [itsN_one]
  refine List.Perm.trans ?_ (plugR_its fs x).symm
  rw [nd_itsc]
  refine List.Perm.cons _ ?_
  refine (tieR_its .pair _).trans ?_
  rw [itsN_app]
  refine List.perm_append_comm.trans ?_
  exact (gathL_its .pair _).append (left_its fs)
theorem movedP_its (fs : List RFr) (x : Nd) : (itsN (movedP fs x).1).Perm (itsN [plugR fs x]) := by
  cases fs with
  | nil => exact .refl _
  | cons f fs =>
    unfold movedP
    dsimp only
    split
    · refine (tieR_its .pair _).trans ?_
      rw [itsN_one]
      refine List.Perm.trans ?_ (plugR_its (f :: fs) x).symm
      show ((plugR fs f.cutN).its ++ (x.its ++ [])).Perm _
      rw [List.append_nil]
      refine List.perm_append_comm.trans (List.Perm.append_left _ ?_)
      have := left_its (f :: fs)
      rw [show leftR (f :: fs) = [plugR fs f.cutN] from rfl, itsN_one] at this
      exact this
    · exact .refl _
theorem left_wf {kd : Kd} (nt : isTwo kd = false) {fs : List RFr} {x : Nd} (h : (plugR fs x).wf kd) : ∀ y ∈ leftR fs, y.wf kd := by
  cases fs with
  | nil => exact fun y hy => nomatch hy
  | cons f fs =>
    intro y hy
    rw [List.mem_singleton.mp hy]
    exact cut_wf nt h
theorem tieR_rt {L : List Nd} (h : ∀ x ∈ L, x.wf .pair) : RtL .pair (tieR .pair L) := ⟨tieR_wf rfl h, fun _ => by rw [tieR_len]; omega⟩
theorem goneP_rt {fs : List RFr} {x : Nd} (h : (plugR fs x).wf .pair) : RtL .pair (goneP fs x) := tieR_rt fun y hy => by
  rcases List.mem_append.mp hy with z | z
  · exact left_wf rfl h y z
  · exact gathL_wf rfl (F.nds_wf (plugR_in_wf fs h).2.2) y z
theorem movedP_rt {fs : List RFr} {x : Nd} (h : (plugR fs x).wf .pair) : RtL .pair (movedP fs x).1 := by
  have one : ∀ y : Nd, y.wf .pair → RtL .pair [y] := fun y hy => ⟨fun z hz => (by rw [List.mem_singleton.mp hz]; exact hy), fun _ => Nat.le_refl _⟩
  cases fs with
  | nil => exact one x h
  | cons f fs =>
    unfold movedP
    dsimp only
    split
    · refine tieR_rt fun y hy => ?_
      rcases List.mem_cons.mp hy with z | z
      · rw [z]
        exact cut_wf rfl h
      · rw [List.mem_singleton.mp z]
        exact plugR_in_wf (f :: fs) h
    · exact one _ h
theorem pair_deeds (m : Nat) : Deeds .pair (m + 7) hpL where
  nil := fun x hx => nomatch hx
  put := fun L k i r hj nd hsz hi => by
    have hw : ∀ x ∈ L ++ [(⟨k, i, false, .nil⟩ : Nd)], x.wf .pair := fun x hx => by
      rcases List.mem_append.mp hx with z | z
      · exact r.wf x z
      · rw [List.mem_singleton.mp z]
        exact ⟨fun z => (by cases z), fun _ => rfl, trivial⟩
    refine ⟨_, _, aj_pair (m + 1) (A := L) (C := [⟨k, i, false, .nil⟩]) ?_, ?_, ?_, tieR_rt hw⟩
    · rw [szN_app]
      show szN L + (1 + 0) ≤ 2000
      omega
    · refine (tieR_its .pair _).trans ?_
      rw [itsN_app]
      exact List.perm_append_comm
    · refine tieR_hp .pair fun x hx => ?_
      rcases List.mem_append.mp hx with z | z
      · exact hj x z
      · rw [List.mem_singleton.mp z]
        exact ⟨leO_none _, trivial⟩
  gone := fun pre post fs x r hj nd hsz => by
    obtain ⟨rfl, rfl⟩ := one_tree rfl r
    exact ⟨_, _, gn_pair m (Nat.le_trans hsz (by decide)), goneP_its fs x, goneP_hp (hj _ List.mem_cons_self), goneP_rt (r.wf _ List.mem_cons_self)⟩
  move := fun pre post fs x k' hk r hj nd hsz => by
    obtain ⟨rfl, rfl⟩ := one_tree rfl r
    have hsz2 : szN [plugR fs (x.rk k')] ≤ 2000 := by
      have e1 := (plugR_its fs x).length_eq
      have e2 := (plugR_its fs (x.rk k')).length_eq
      have e3 : x.its.length = (x.rk k').its.length := rfl
      have hsz : szN [plugR fs x] ≤ 1000 := hsz
      rw [szN_its, itsN_one] at hsz ⊢
      rw [List.length_append] at e1 e2
      omega
    exact ⟨_, _, mv_pair m hsz2, movedP_its fs _, movedP_hp hk (hj _ List.mem_cons_self), movedP_rt (plugR_wf fs rfl (r.wf _ List.mem_cons_self) rk_wf)⟩
end Mn

/-! Shapes told twice; two trees as one, as the laws reckon it. -/
namespace Mn
open PySem
theorem ndD_dep {kd : Kd} {k i : Int} {m : Bool} {ks : List D} {n : Nat} (h : deps ks ≤ n) : (ndD kd k i m ks).dep ≤ n + 2 := by
  unfold ndD
  split
  · show max 1 (deps ks) + 1 ≤ _
    omega
  · split
    · show max 1 (max 0 (max (deps ks + 1) 0)) + 1 ≤ _
      omega
    · show max 1 (max (deps ks + 1) 0) + 1 ≤ _
      omega
theorem dl_dep (kd : Kd) : ∀ f : F, deps (f.dl kd) ≤ 2 * f.sz + 1
  | .nil => Nat.zero_le _
  | .hole r => by
    have := dl_dep kd r
    show max 1 (deps (r.dl kd)) ≤ 2 * r.sz + 1
    omega
  | .cons k i m c r => by
    have h1 := dl_dep kd c
    have h2 := dl_dep kd r
    have h3 := ndD_dep (kd := kd) (k := k) (i := i) (m := m) h1
    show max (ndD kd k i m (c.dl kd)).dep (deps (r.dl kd)) ≤ 2 * (c.sz + r.sz + 1) + 1
    omega
theorem ndD_wid {kd : Kd} {k i : Int} {m : Bool} {ks : List D} (hl : ks.length ≤ 90000) (h : ∀ d ∈ ks, d.wid) : (ndD kd k i m ks).wid := by
  have hi : (itD (k, i)).wid := by simp [itD, D.wid]
  have ht : (D.tup ks).wid := by
    rw [D.wid]
    exact ⟨by omega, h⟩
  unfold ndD
  split
  · rw [D.wid]
    refine ⟨by rw [List.length_cons]; omega, fun d hd => ?_⟩
    rcases List.mem_cons.mp hd with rfl | z
    · exact hi
    · exact h d z
  · split
    · rw [D.wid]
      refine ⟨by show 3 ≤ 100000; decide, fun d hd => ?_⟩
      simp only [List.mem_cons, List.not_mem_nil, or_false] at hd
      rcases hd with rfl | rfl | rfl
      · exact hi
      · simp [D.wid]
      · exact ht
    · rw [D.wid]
      refine ⟨by show 2 ≤ 100000; decide, fun d hd => ?_⟩
      simp only [List.mem_cons, List.not_mem_nil, or_false] at hd
      rcases hd with rfl | rfl
      · exact hi
      · exact ht
theorem dl_len2 (kd : Kd) : ∀ {f : F}, f.full = true → (f.dl kd).length ≤ f.sz := fun {f} h => by
  rw [full_d kd h, List.length_map]
  exact nds_len f
theorem dl_wid {kd : Kd} (nt : isTwo kd = false) : ∀ {f : F}, f.wf kd → f.sz ≤ 90000 → ∀ d ∈ f.dl kd, d.wid
  | .nil, _, _, d, hd => nomatch hd
  | .hole r, h, _, _, _ => by rw [h.1] at nt; cases nt
  | .cons k i m c r, h, hs, d, hd => by
    have hs : c.sz + r.sz + 1 ≤ 90000 := hs
    rcases List.mem_cons.mp hd with rfl | z
    · refine ndD_wid ?_ (dl_wid nt h.2.2.1 (by omega))
      have := dl_len2 kd (wf_full nt h.2.2.1)
      omega
    · exact dl_wid nt h.2.2.2 (by omega) d z
theorem shD_facts {kd : Kd} (nt : isTwo kd = false) {f : F} (r : Rt kd f) (hs : f.sz ≤ 90000) : (shD kd f).dep ≤ 2 * f.sz + 2 ∧ (shD kd f).dat = true ∧ (shD kd f).wid := by
  have h1 := dl_dep kd f
  have h2 := dl_wid nt r.wf hs
  have h3 := dl_dat kd f
  have h4 := dl_len2 kd r.full
  unfold shD
  cases isMany kd with
  | true =>
    refine ⟨?_, h3, ?_⟩
    · show deps (f.dl kd) + 1 ≤ _
      omega
    · show (D.tup (f.dl kd)).wid
      rw [D.wid]
      exact ⟨by omega, h2⟩
  | false =>
    cases f with
    | nil => exact ⟨by show 1 ≤ 2 * 0 + 2; decide, rfl, by show (D.tup []).wid; rw [D.wid]; exact ⟨by decide, fun d hd => nomatch hd⟩⟩
    | hole r => exact absurd r.full Bool.false_ne_true
    | cons k i m c r2 =>
      refine ⟨?_, nd_dat kd ⟨k, i, m, c⟩, h2 _ List.mem_cons_self⟩
      have e : deps ((F.cons k i m c r2).dl kd) = max (ndD kd k i m (c.dl kd)).dep (deps (r2.dl kd)) := rfl
      show (ndD kd k i m (c.dl kd)).dep ≤ _
      omega
theorem dat_tup {l : List D} (h : ∀ d ∈ l, d.dat = true) : (D.tup l).dat = true := by
  have : purs l = true ∧ PyData.canLayAll0 (pys l) = true := by
    induction l with
    | nil => exact ⟨rfl, rfl⟩
    | cons d l ih =>
      obtain ⟨a, b⟩ := ih fun x hx => h x (List.mem_cons_of_mem _ hx)
      obtain ⟨c, e⟩ := Bool.and_eq_true_iff.mp (h d List.mem_cons_self)
      exact ⟨by show (d.pur && purs l) = true; rw [c, a]; rfl, by show (d.py.canLay0 && PyData.canLayAll0 (pys l)) = true; rw [e, b]; rfl⟩
  exact Bool.and_eq_true_iff.mpr this
/-- a shape and its work, told twice -/
theorem same_shw {kd : Kd} (nt : isTwo kd = false) (n K : Nat) {f : F} (r : Rt kd f) (w : Int) (S : Store) (Q : DK) (X : XK) (hK : K ≤ 9000) (hs : 2 * f.sz + 3 ≤ K) (q : ∀ S', Ext S S' → Q (.bl true) S') : callN PP (n + K + 2) f_law_same [.tup [shD kd f, .int w], .tup [shD kd f, .int w]] S Q X := by
  obtain ⟨h1, h2, h3⟩ := shD_facts nt r (by omega)
  refine same_ok K _ ?_ (dat_tup fun d hd => ?_) ?_ n S Q X q
  · show max (shD kd f).dep (max 0 0) + 1 ≤ K
    omega
  · simp only [List.mem_cons, List.not_mem_nil, or_false] at hd
    rcases hd with rfl | rfl
    · exact h2
    · rfl
  · rw [D.wid]
    refine ⟨by show 2 ≤ 100000; decide, fun d hd => ?_⟩
    simp only [List.mem_cons, List.not_mem_nil, or_false] at hd
    rcases hd with rfl | rfl
    · exact h3
    · simp [D.wid]
theorem same_ishw {kd : Kd} (nt : isTwo kd = false) (n K : Nat) {f : F} (r : Rt kd f) (p : It2) (w : Int) (S : Store) (Q : DK) (X : XK) (hK : K ≤ 9000) (hs : 2 * f.sz + 3 ≤ K) (q : ∀ S', Ext S S' → Q (.bl true) S') : callN PP (n + K + 2) f_law_same [.tup [itD p, shD kd f, .int w], .tup [itD p, shD kd f, .int w]] S Q X := by
  obtain ⟨h1, h2, h3⟩ := shD_facts nt r (by omega)
  refine same_ok K _ ?_ (dat_tup fun d hd => ?_) ?_ n S Q X q
  · show max 1 (max (shD kd f).dep (max 0 0)) + 1 ≤ K
    omega
  · simp only [List.mem_cons, List.not_mem_nil, or_false] at hd
    rcases hd with rfl | rfl | rfl
    · rfl
    · exact h2
    · rfl
  · rw [D.wid]
    refine ⟨by show 3 ≤ 100000; decide, fun d hd => ?_⟩
    simp only [List.mem_cons, List.not_mem_nil, or_false] at hd
    rcases hd with rfl | rfl | rfl
    · simp [itD, D.wid]
    · exact h3
    · simp [D.wid]
/-! two trees as one -/
theorem um_dd {kd : Kd} {x : Nd} (h : x.wf kd) (hc : isCut kd = false) : x.um.d kd = x.d kd := by
  obtain ⟨k, i, m, c⟩ := x
  have : m = false := h.2.1 hc
  subst this
  rfl
theorem kids_dl {kd : Kd} (nt : isTwo kd = false) {x : Nd} (h : x.wf kd) : x.c.dl kd = x.c.nds.map (Nd.d kd) := full_d kd (wf_full nt h.2.2)
theorem addK_d {kd : Kd} (nt : isTwo kd = false) {w l : Nd} (hw : w.wf kd) : (addK kd w l).d kd = ndD kd w.k w.i w.m ((if kd = .pair then l.um :: w.c.nds else w.c.nds ++ [l.um]).map (Nd.d kd)) := by
  unfold addK Nd.d
  dsimp only
  rw [full_d kd (ofL_full _), ofL_nds]
  rfl
theorem law_tie_ok (n : Nat) {kd : Kd} {x y : Nd} {S : Store} {Q : DK} {X : XK} (nt : isTwo kd = false) (hx : x.wf kd) (hy : y.wf kd) (ne : x.it ≠ y.it) (sx : x.sz ≤ 5000) (sy : y.sz ≤ 5000) (q : Q ((tieN kd x y).d kd) S) : callN PP (n + 1) f_law_tie [.str kd.s, x.d kd, y.d kd] S Q X := by
  obtain ⟨s, es⟩ := nd_it kd x
  obtain ⟨s', es'⟩ := nd_it kd y
  -- from the two in order on
  have rest : ∀ a b : Nd, wl x y = (a, b) → a.wf kd → b.wf kd → a.sz ≤ 5000 → wpCs (callN PP n) k_law_tie_1 (rtEnds Q X) [some (.str kd.s), some (a.d kd), some (b.d kd)] S := by
    intro a b e ha hb sa
    unfold tieN at q
    rw [e] at q
    have q : Q ((addK kd a b).d kd) S := q
    rw [addK_d nt ha] at q
    have hl : (a.c.dl kd).length ≤ 5000 := by
      have := dl_len2 kd (wf_full nt ha.2.2)
      have e : a.sz = a.c.sz + 1 := rfl
      omega
    have ea : a.d kd = ndD kd a.k a.i a.m (a.c.dl kd) := rfl
    have eb : b.d kd = ndD kd b.k b.i b.m (b.c.dl kd) := rfl
    cases kd with
    | left => cases nt
    | skew => cases nt
    | pair =>
      rw [if_pos rfl, List.map_cons, um_dd hb rfl, ← kids_dl nt ha] at q
      rw [ea]
      show wpCs _ k_law_tie_1 _ [some (.str "pair"), some (.tup [itD (a.k, a.i), .tup (a.c.dl .pair)]), some (b.d .pair)] S
      bv_omega
      show wpCs _ k_law_tie_1a0 _ _ _
      bv_omega
      exact ⟨by omega, q⟩
    | count =>
      rw [if_neg (by decide), List.map_append, List.map_cons, um_dd hb rfl, ← kids_dl nt ha] at q
      rw [ea]
      show wpCs _ k_law_tie_1 _ [some (.str "count"), some (.tup [itD (a.k, a.i), .tup (a.c.dl .count)]), some (b.d .count)] S
      bv_omega
      show wpCs _ k_law_tie_2 _ _ _
      bv_omega
      show wpCs _ k_law_tie_3 _ _ _
      bv_omega
      exact ⟨by omega, q⟩
    | cut =>
      rw [if_neg (by decide), List.map_append, List.map_cons, ← kids_dl nt ha] at q
      rw [ea, eb]
      show wpCs _ k_law_tie_1 _ [some (.str "cut"), some (.tup [itD (a.k, a.i), .bl a.m, .tup (a.c.dl .cut)]), some (.tup [itD (b.k, b.i), .bl b.m, .tup (b.c.dl .cut)])] S
      bv_omega
      show wpCs _ k_law_tie_2 _ _ _
      bv_omega
      show wpCs _ k_law_tie_2a0 _ _ _
      bv_omega
      exact ⟨by omega, q⟩
  refine enter rfl rfl ?_
  show wpCs _ k_law_tie_0 _ [some (.str kd.s), some (x.d kd), some (y.d kd)] S
  rw [es, es']
  bv_omega
  refine ltit_go ?_
  rw [← es, ← es']
  rcases wl_cases x y with ⟨e, h⟩ | ⟨e, h⟩
  · have : itLt y.it x.it = false := by
      unfold itLt at h ⊢
      rw [decide_eq_true_iff] at h
      exact decide_eq_false (by omega)
    rw [this]
    exact rest x y e hx hy sx
  · have : itLt y.it x.it = true := by
      unfold itLt at h ⊢
      have h := of_decide_eq_false h
      refine decide_eq_true ?_
      have hne : ¬ (x.it.1 = y.it.1 ∧ x.it.2 = y.it.2) := fun z => ne (Prod.ext z.1 z.2)
      omega
    rw [this]
    show wpCs _ k_law_tie_0a0 _ _ _
    bv_omega
    exact rest y x e hy hx sy
end Mn

/-! Two shapes as one. -/
namespace Mn
open PySem
theorem joined_okL (n : Nat) {kd : Kd} {L K R : List Nd} {w : Int} {S : Store} {Q : DK} {X : XK} (hn : 4 ≤ n) (nt : isTwo kd = false) (r : RtL kd L) (r2 : RtL kd K) (nd : (allN (L ++ K)).Nodup) (hsz : szN (L ++ K) ≤ 2000) (aj : AJ kd n L K R w) (one : isMany kd = false → R.length ≤ 1) (hR : szN R ≤ 5000)
    (q : ∀ S', Ext S S' → Q (.tup [shL kd R, .int w]) S') : callN PP (n + 1) f_joined_deeds [.str kd.s, shL kd L, shL kd K] S Q X := by
  obtain ⟨n, rfl⟩ : ∃ m, n = m + 4 := ⟨n - 4, by omega⟩
  have nd0 := nd
  rw [allN_app] at nd0
  obtain ⟨na, nb, nab⟩ := List.nodup_append.mp nd0
  rw [szN_app] at hsz
  refine enter rfl rfl ?_
  show wpCs _ k_joined_deeds_0 _ [some (.str kd.s), some (shD kd (F.ofL L)), some (shD kd (F.ofL K)), none, none, none, none, none] S
  bv_omega
  refine table_of_ok n r.rt (by rw [ofL_all]; exact na) (by rw [ofL_sz]; omega) fun S1 B1 M1 T1 s1 tb => ?_
  obtain ⟨w1, W1⟩ := T1
  obtain ⟨g1, er⟩ := tb.grv r na
  rw [ofL_sz] at W1
  have kd1 := tb.kind
  generalize S.length = t at W1 ⊢
  ac_rfl
  bv_omega
  refine attr_go W1.ins (tb_key _ _) ?_
  refine dict_go W1.d1 ?_
  have W2 := W1.keep (S' := S1 ++ [.dct w1.k1]) fun j o _ h => get_push h _
  have hk2 := last_get S1 (.dct w1.k1)
  have st2 := s1.pushN [.dct w1.k1]
  have hkb : ¬ B1 S1.length := fun z => Nat.lt_irrefl _ (W1.bnd _ z)
  generalize S1 ++ [.dct w1.k1] = S2 at W2 hk2 st2 ⊢
  generalize S1.length = kn at hk2 hkb ⊢
  ac_rfl
  bv_omega
  refine table_of_ok n r2.rt (by rw [ofL_all]; exact nb) (by rw [ofL_sz]; omega) fun S3 B3 M3 T3 s3 tb3 => ?_
  have x3 := s3.ext0
  have W3 := W2.keep (S' := S3) fun j o _ h => x3.get h
  have hk3 := x3.get hk2
  have st3 : Step noB B1 S S3 := by obtain ⟨U, rfl⟩ := x3; exact st2.pushN U
  have hlt : ∀ j, B3 j → S2.length ≤ j := fun j h => by
    rcases s3.own j h with z | z
    · exact z.elim
    · exact z
  have hk3l := get_lt hk2
  rw [ofL_sz] at T3
  generalize ht2 : S2.length = t2 at T3 ⊢
  ac_rfl
  refine cs_cons ?_
  refine check_two (n + 4) (kvs := w1.k1) (ρ := [some (.str kd.s), some (shD kd (F.ofL L)), some (shD kd (F.ofL K)), some (.ref t), some (.ref kn), some (.ref t2), none, none]) T3 (by omega) rfl rfl rfl hk3 (fun z => by have := hlt _ z; omega) (fun i hi => ?_) fun S4 na4 nb4 _ fr4 len4 => ?_
  · rw [W1.g1]
    have hib : i ∈ allN K := by
      refine Classical.byContradiction fun z => hi ?_
      exact (tb3.out i (by rw [ofL_all]; exact z)).1
    have hia : i ∉ (F.ofL L).all := by
      rw [ofL_all]
      exact fun z => nab i z i hib rfl
    rw [(tb.out i hia).1]
    rfl
  have hna := hlt _ nb4
  have hb1 : ∀ j, B1 j → j ≠ na4 := fun j h z => by
    have := W2.bnd j h
    omega
  have W4 := W3.keep (S' := S4) fun j o bj h => fr4 j o (hb1 j bj) h
  have st4 : Step noB B1 S S4 := ⟨st3.own, Nat.le_trans st3.len len4, fun j hj hb => by
    have hj1 := st2.len
    obtain ⟨o, ho⟩ : ∃ o, S3[j]? = some o := ⟨_, List.getElem?_eq_getElem (by have := st3.len; omega)⟩
    rw [← st3.frm j hj hb, ho]
    exact fr4 j o (by omega) ho⟩
  ac_rfl
  bv_omega
  refine meth_go W4.ins rfl ?_
  rw [← kd1] at r2 ⊢
  refine opened_ok (n + 1) ⟨w1, W4⟩ r2.rt (by rw [ofL_all]; exact nb) (by rw [ofL_sz]; omega) fun S5 B5 M5 ra T5 s5 lay hra _ nbra => ?_
  rw [ofL_sz] at T5
  ac_rfl
  have kd5 : M5.kind = kd := lay.kind.trans kd1
  have g5 : Grv M5 (L ++ K) := by
    refine ⟨fun x hx => ?_, nd, fun x hx => ?_⟩
    · rcases List.mem_append.mp hx with h | h
      · refine (g1.at_ x h).congr fun j hj => ?_
        have : j ∉ (F.ofL K).all := by
          rw [ofL_all]
          exact fun z => nab j (mem_allN.mpr ⟨x, h, hj⟩) j z rfl
        exact ⟨lay.key j this, lay.kids j this, lay.up j this, lay.mark j this⟩
      · have := atF_iff.mp lay.at_ x
        rw [ofL_nds] at this
        exact this h
    · rw [kd5]
      rcases List.mem_append.mp hx with h | h
      · exact r.wf x h
      · rw [← kd1]
        exact r2.wf x h
  have hra2 : S5[ra]? = some (.lst (K.map inI)) := by
    rw [hra, ofL_nds, List.map_map]
    rfl
  refine aj S5 t _ ra B5 M5 _ _ T5 kd5 (by rw [szN_app]; omega) (by omega) g5 (by rw [lay.roots]; exact er) hra2 nbra fun S6 B6 M6 T6 s6 kd6 g6 r6 => ?_
  obtain ⟨w6, W6⟩ := id T6
  ac_rfl
  bv_omega
  refine meth_go W6.ins rfl ?_
  refine shape_okL (n + 1) T6 (by rw [kd6]; exact nt) (fun z => one (by rw [← kd6]; exact z)) r6 g6 hR fun S7 x7 => ?_
  ac_rfl
  rw [kd6]
  exact q S7 (Ext.trans ((st4.trans s5).trans s6).ext0 x7)
end Mn

namespace Mn
open PySem
theorem tr_cases {L : List Nd} (h : RtL .pair L) : L = [] ∨ ∃ x, L = [x] := by
  have := h.one rfl
  match L, this with
  | [], _ => exact .inl rfl
  | [x], _ => exact .inr ⟨x, rfl⟩
theorem sh_one (x : Nd) : shL .pair [x] = x.d .pair := rfl
/-- what the law reckons of a join -/
theorem law_pair_join_ok (n : Nat) {A C : List Nd} {w : D} {S : Store} {Q : DK} {X : XK} (ra : RtL .pair A) (rc : RtL .pair C) (nd : (allN (A ++ C)).Nodup) (hs : szN (A ++ C) ≤ 2000) (q : Q (.tup [shL .pair (tieR .pair (A ++ C)), .int ((A ++ C).length - 1 : Nat)]) S) :
    callN PP (n + 2) f_law_pair_join [w, shL .pair A, shL .pair C] S Q X := by
  refine enter rfl rfl ?_
  show wpCs _ k_law_pair_join_0 _ [some w, some (shL .pair A), some (shL .pair C)] S
  rcases tr_cases ra with rfl | ⟨x, rfl⟩
  · rw [shL_nil]
    bv_omega
    refine eqnil_pur rfl ?_
    show wpCs _ k_law_pair_join_0a0 _ _ _
    rcases tr_cases rc with rfl | ⟨y, rfl⟩
    · rw [shL_nil]
      bv_omega
      refine eqnil_pur rfl ?_
      exact q
    · bv_omega
      refine eqnil_sh rc ?_
      exact q
  · bv_omega
    refine eqnil_sh ra ?_
    rcases tr_cases rc with rfl | ⟨y, rfl⟩
    · rw [shL_nil]
      ac_rfl
      refine eqnil_pur rfl ?_
      show wpCs _ k_law_pair_join_0a0 _ _ _
      bv_omega
      refine eqnil_pur rfl ?_
      exact q
    · ac_rfl
      refine eqnil_sh rc ?_
      show wpCs _ k_law_pair_join_1 _ _ _
      rw [sh_one, sh_one]
      bv_omega
      rw [szN_app] at hs
      have h1 : szN [x] = x.sz := rfl
      have h2 : szN [y] = y.sz := rfl
      refine law_tie_ok n (kd := .pair) rfl (ra.wf x List.mem_cons_self) (rc.wf y List.mem_cons_self) (fun z => ?_) (by omega) (by omega) ?_
      · have hxy : x.i = y.i := congrArg Prod.snd z
        have nd : (allN [x, y]).Nodup := nd
        rw [allN_cons, allN_cons] at nd
        exact (List.nodup_append.mp nd).2.2 x.i (by simp [Nd.all]) y.i (by simp [Nd.all]) hxy
      · ac_rfl
        exact q
theorem law_ok (n : Nat) (ns : List Int) (hn : ns.length ≤ 63) : callN PP (n + 115) f_law [.fl (ns.map D.int)] [] (fun d _ => d = .bl true) noX := by
  have deeds := pair_deeds (n + 104)
  refine enter rfl rfl ?_
  show wpCs (callN PP (n + 114)) k_law_0 _ [some (.fl (ns.map D.int)), none, none, none, none, none, none, none] []
  bv_omega
  refine addf_go (last_get [] _) (by simp; omega) ?_
  refine sll_go (last_get _ _) ?_
  refine it_lst (last_get _ _) ?_
  generalize hL : cut ([D.int 0] ++ ns.map D.int) none (some 8) = L
  have hcell : ∀ d ∈ L, ∃ c, d = .int c := by
    intro d hd
    rw [← hL, show (some (8 : Int)) = some ((8 : Nat) : Int) from rfl, cut_to] at hd
    have := List.mem_of_mem_take hd
    simp at this
    rcases this with h | ⟨c, _, h⟩
    · exact ⟨_, h⟩
    · exact ⟨c, h.symm⟩
  generalize hA : (([Ob.lst [D.int 0]] : Store) ++ [Ob.lst ([D.int 0] ++ ns.map D.int)]).length = A
  have g0 : (([Ob.lst [D.int 0]] : Store) ++ [Ob.lst ([D.int 0] ++ ns.map D.int)] ++ [Ob.lst L])[A]? = some (.lst L) := by rw [← hA]; exact last_get _ _
  generalize (([Ob.lst [D.int 0]] : Store) ++ [Ob.lst ([D.int 0] ++ ns.map D.int)] ++ [Ob.lst L]) = S0 at g0 ⊢
  refine forB_at L (fun i ρ S => ∃ x1 x2 x3 x4 x5 x6 x7, ρ = [some (.fl (ns.map D.int)), x1, x2, x3, x4, x5, x6, x7] ∧ S[A]? = some (.lst L)) ?_ ?_ ?_ ⟨_, _, _, _, _, _, _, rfl, g0⟩
  · rintro i ρ S ⟨x1, x2, x3, x4, x5, x6, x7, rfl, g⟩
    exact lst_of g
  · rintro ρ S ⟨x1, x2, x3, x4, x5, x6, x7, rfl, g⟩
    bv_omega
  · rintro i d hd ρ S ⟨x1, x2, x3, x4, x5, x6, x7, rfl, g⟩ N hN
    obtain ⟨c, rfl⟩ := hcell d (List.mem_of_getElem? hd)
    refine ⟨_, rfl, ?_⟩
    bv_omega
    refine source_ok2 (n + 113) c S _ _ ?_
    have sr0 : Src (S ++ [Ob.lst [D.int c, .int c, .int 0, .int 0]]) S.length 0 := ⟨c, c, 0, last_get _ _⟩
    have gA := get_push g [Ob.lst [D.int c, .int c, .int 0, .int 0]]
    have neA : A ≠ S.length := Nat.ne_of_lt (get_lt g)
    generalize S ++ [Ob.lst [D.int c, .int c, .int 0, .int 0]] = S1 at *
    generalize S.length = s at *
    ac_rfl
    bv_omega
    refine take_src (n + 112) 0 23 s S1 _ _ sr0 (by decide) (by decide) (by decide) (by decide) fun v S2 v0 v1 le2 fr2 sr2 => ?_
    ac_rfl
    refine one_of_ok (n + 111) _ s S2.length _ _ _ _ (sr2.push _) (by decide) (by decide) last_lst (Nat.ne_of_gt sr2.lt) nle nle fun d3 S3 hd3 le3 fr3 sr3 => ?_
    obtain ⟨many, rfl, hmany⟩ : ∃ many : Nat, d3 = .int many ∧ many ≤ 22 := by
      simp only [List.mem_cons, List.not_mem_nil, or_false] at hd3
      rcases hd3 with rfl | rfl | rfl | rfl
      · exact ⟨v.toNat, by rw [Int.toNat_of_nonneg v0], by omega⟩
      · exact ⟨0, rfl, by decide⟩
      · exact ⟨1, rfl, by decide⟩
      · exact ⟨22, rfl, by decide⟩
    have gA3 : S3[A]? = some (.lst L) := fr3.get (get_push (fr2.get gA neA) _) neA
    ac_rfl
    refine grownL (kd := .pair) deeds (by omega) rfl sr3 (by decide) (by decide) (by omega) (by decide) (by decide) fun one k4 S4 g1 _ fr4 sr4 k40 k41 => ?_
    have gA4 := fr4.get gA3 neA
    ac_rfl
    bv_omega
    refine take_src (n + 112) _ 23 s S4 _ _ sr4 (by omega) (by omega) (by decide) (by decide) fun v2 S5 v20 v21 le5 fr5 sr5 => ?_
    ac_rfl
    refine one_of_ok (n + 111) _ s S5.length _ _ _ _ (sr5.push _) (by omega) (by omega) last_lst (Nat.ne_of_gt sr5.lt) nle nle fun d6 S6 hd6 le6 fr6 sr6 => ?_
    obtain ⟨many2, rfl, hmany2⟩ : ∃ many : Nat, d6 = .int many ∧ many ≤ 22 := by
      simp only [List.mem_cons, List.not_mem_nil, or_false] at hd6
      rcases hd6 with rfl | rfl | rfl | rfl
      · exact ⟨v2.toNat, by rw [Int.toNat_of_nonneg v20], by omega⟩
      · exact ⟨0, rfl, by decide⟩
      · exact ⟨1, rfl, by decide⟩
      · exact ⟨20, rfl, by decide⟩
    have gA6 : S6[A]? = some (.lst L) := fr6.get (get_push (fr5.get gA4 neA) _) neA
    ac_rfl
    refine grownL (kd := .pair) deeds (by omega) rfl sr6 (by omega) (by omega) (by omega) (by decide) (by decide) fun other k7 S7 g2 _ fr7 sr7 k70 k71 => ?_
    have gA7 := fr7.get gA6 neA
    ac_rfl
    bv_omega
    refine key_ok (n + 110) k7 s S7 _ _ sr7 (by omega) (by omega) fun ky k8 S8 ky0 ky1 fr8 sr8 k80 k81 => ?_
    ac_rfl
    refine ⟨by decide, by decide, Sm.of_le (by decide) (by decide), ?_⟩
    ac_rfl
    refine one_of_ok (n + 111) _ s S8.length _ _ _ _ (sr8.push _) (by omega) (by omega) last_lst (Nat.ne_of_gt sr8.lt) nle nle fun d9 S9 hd9 le9 fr9 sr9 => ?_
    obtain ⟨tk, rfl, htk⟩ : ∃ tk : Int, d9 = .int tk ∧ (tk = 300 ∨ tk = 1000000) := by
      simp only [List.mem_cons, List.not_mem_nil, or_false] at hd9
      rcases hd9 with rfl | rfl
      · exact ⟨_, rfl, .inl rfl⟩
      · exact ⟨_, rfl, .inr rfl⟩
    have gA9 : S9[A]? = some (.lst L) := fr9.get (get_push (fr8.get gA7 neA) _) neA
    obtain ⟨r1, ef1⟩ := rtl_of g1.rt
    obtain ⟨r2, ef2⟩ := rtl_of g2.rt
    have es1 : shD .pair one = shL .pair one.nds := by unfold shL; rw [ef1]
    have es2 : shD .pair other = shL .pair other.nds := by unfold shL; rw [ef2]
    have sz1 := g1.sz
    have sz2 := g2.sz
    rw [← F.nds_sz] at sz1 sz2
    have ea1 : one.all = allN one.nds := by rw [← ef1, ofL_all, ofL_nds]
    have ea2 : other.all = allN other.nds := by rw [← ef2, ofL_all, ofL_nds]
    have nd1 := g1.nd
    have nd2 := g2.nd
    have tb1 := g1.tb
    have tb2 := g2.tb
    rw [ea1] at nd1 tb1
    rw [ea2] at nd2 tb2
    rw [es1, es2]
    generalize one.nds = O1 at *
    generalize other.nds = O2 at *
    have same : ∀ (K : List Nd) (w : Int) (S : Store) (Q : DK) (X : XK), RtL .pair K → szN K ≤ 50 → (∀ S', Ext S S' → Q (.bl true) S') → callN PP (n + 114) f_law_same [.tup [shL .pair K, .int w], .tup [shL .pair K, .int w]] S Q X := fun K w S Q X rk hk hq => by
      rw [show n + 114 = (n + 5) + 107 + 2 by omega]
      exact same_shw (kd := .pair) rfl (n + 5) 107 rk.rt w S Q X (by decide) (by rw [ofL_sz]; omega) hq
    have one1 : RtL .pair [(⟨ky, tk, false, .nil⟩ : Nd)] := ⟨fun x hx => by rw [List.mem_singleton.mp hx]; exact ⟨fun z => (by cases z), fun _ => rfl, trivial⟩, fun _ => Nat.le_refl _⟩
    have hni : tk ∉ allN O1 := fun z => by have := tb1 tk z; omega
    have szp : szN (O1 ++ [(⟨ky, tk, false, .nil⟩ : Nd)]) = szN O1 + 1 := by rw [szN_app]; rfl
    have szt : ∀ K : List Nd, szN (tieR .pair K) = szN K := fun K => by rw [szN_its, szN_its, (tieR_its .pair K).length_eq]
    have wfp : ∀ {A C : List Nd}, RtL .pair A → RtL .pair C → ∀ x ∈ A ++ C, x.wf .pair := fun ra rc x hx => by
      rcases List.mem_append.mp hx with z | z
      · exact ra.wf x z
      · exact rc.wf x z
    ac_rfl
    bv_omega
    refine put_okL (n + 113) (kd := .pair) (L := O1) (k := ky) (i := tk) (by omega) rfl r1 nd1 hni (by omega) (aj_pair (n + 107) (by omega)) (tieR_rt (wfp r1 one1)).one (by rw [szt]; omega) fun S10 x10 => ?_
    ac_rfl
    have e1 : D.tup [D.tup [D.int ky, D.int tk], D.tup []] = shL .pair [(⟨ky, tk, false, .nil⟩ : Nd)] := rfl
    rw [e1]
    refine law_pair_join_ok (n + 112) r1 one1 ?_ (by omega) ?_
    · rw [allN_app]
      refine List.nodup_append.mpr ⟨nd1, by show ([tk] : List Int).Nodup; simp, fun a ha b hb z => hni ?_⟩
      have : b = tk := by simpa [allN, Nd.all, F.all] using hb
      rw [← this, ← z]
      exact ha
    refine same _ _ S10 _ _ (tieR_rt (wfp r1 one1)) (by rw [szt]; omega) fun S11 x11 => ?_
    ac_rfl
    have gA11 := x11.get (x10.get gA9)
    bv_omega
    refine it_lst (last_get _ _) ?_
    have gB := last_get S11 (Ob.lst [.tup [shL .pair O1, shL .pair O2], .tup [shL .pair O2, shL .pair O1]])
    have gA12 := get_push gA11 [Ob.lst [.tup [shL .pair O1, shL .pair O2], .tup [shL .pair O2, shL .pair O1]]]
    generalize S11 ++ [Ob.lst [.tup [shL .pair O1, shL .pair O2], .tup [shL .pair O2, shL .pair O1]]] = S12 at *
    have dis : (allN O1 ++ allN O2).Nodup := List.nodup_append.mpr ⟨nd1, nd2, fun a ha b hb => by have := tb1 a ha; have := tb2 b hb; omega⟩
    refine forB_at _ (fun i ρ S => ∃ x6 x7, ρ = [some (.fl (ns.map D.int)), some (.int c), some (.ref s), some (shL .pair O1), some (shL .pair O2), some (.tup [.int ky, .int tk]), x6, x7] ∧ Ext S12 S) ?_ ?_ ?_ ⟨_, _, rfl, Ext.refl _⟩
    · rintro i ρ S ⟨x6, x7, rfl, hx⟩
      exact lst_of (hx.get gB)
    · rintro ρ S13 ⟨x6, x7, rfl, hx⟩
      ac_rfl
      exact hN _ _ ⟨_, _, _, _, _, _, _, rfl, hx.get gA12⟩
    · rintro i d hd ρ S13 ⟨x6, x7, rfl, hx⟩ N2 hN2
      obtain ⟨a, b, rfl, hnd, hsz, ra, rb⟩ : ∃ a b : List Nd, d = .tup [shL .pair a, shL .pair b] ∧ (allN a ++ allN b).Nodup ∧ szN a + szN b ≤ 44 ∧ RtL .pair a ∧ RtL .pair b := by
        have hm := List.mem_of_getElem? hd
        simp only [List.mem_cons, List.not_mem_nil, or_false] at hm
        rcases hm with rfl | rfl
        · exact ⟨O1, O2, rfl, dis, by omega, r1, r2⟩
        · exact ⟨O2, O1, rfl, (List.perm_append_comm.nodup_iff).mp dis, by omega, r2, r1⟩
      rw [← allN_app] at hnd
      rw [← szN_app] at hsz
      refine ⟨_, rfl, ?_⟩
      bv_omega
      refine joined_okL (n + 113) (kd := .pair) (by omega) rfl ra rb hnd (by omega) (aj_pair (n + 107) (by omega)) (tieR_rt (wfp ra rb)).one (by rw [szt]; omega) fun S14 x14 => ?_
      ac_rfl
      refine law_pair_join_ok (n + 112) ra rb hnd (by omega) ?_
      refine same _ _ S14 _ _ (tieR_rt (wfp ra rb)) (by rw [szt]; omega) fun S15 x15 => ?_
      ac_rfl
      exact hN2 _ _ ⟨_, _, rfl, hx.trans (x14.trans x15)⟩
end Mn

namespace Mn
open PySem PySem.Spec PyProof.Rows L2 Hd
def e_0 : Ent := ⟨"is_whole", f_is_whole, (["thing", "least", "most"] : List Str), (["thing", "least", "most"] : List Str), none, none, d_0⟩
def e_1 : Ent := ⟨"trees_of", f_trees_of, (["kind", "shape"] : List Str), (["kind", "shape"] : List Str), none, none, d_1⟩
def e_2 : Ent := ⟨"kids_of", f_kids_of, (["kind", "tree"] : List Str), (["kind", "tree"] : List Str), none, none, d_2⟩
def e_3 : Ent := ⟨"Table", f_Table_init__, (["self", "kind"] : List Str), (["self", "kind"] : List Str), none, some ("Table", 0, "__init__"), d_3⟩
def e_4 : Ent := ⟨"Table", f_Table_add, (["self", "item", "key", "ticket"] : List Str), (["self", "item"] : List Str), none, some ("Table", 0, "add"), d_4⟩
def e_5 : Ent := ⟨"Table", f_Table_item, (["self", "ticket"] : List Str), (["self", "ticket"] : List Str), none, some ("Table", 0, "item"), d_5⟩
def e_6 : Ent := ⟨"Table", f_Table_is_less, (["self", "one", "other"] : List Str), (["self", "one", "other"] : List Str), none, some ("Table", 0, "is_less"), d_6⟩
def e_7 : Ent := ⟨"Table", f_Table_sorted_two, (["self", "one", "other"] : List Str), (["self", "one", "other"] : List Str), none, some ("Table", 0, "sorted_two"), d_7⟩
def e_8 : Ent := ⟨"Table", f_Table_opened, (["self", "shape", "found", "waiting", "tree", "order", "up", "place", "ticket", "kids", "at", "kid"] : List Str), (["self", "shape"] : List Str), none, some ("Table", 0, "opened"), d_8⟩
def e_9 : Ent := ⟨"Table", f_Table_set_rank, (["self", "ticket"] : List Str), (["self", "ticket"] : List Str), none, some ("Table", 0, "set_rank"), d_9⟩
def e_10 : Ent := ⟨"Table", f_Table_rank, (["self", "ticket"] : List Str), (["self", "ticket"] : List Str), none, some ("Table", 0, "rank"), d_10⟩
def e_11 : Ent := ⟨"Table", f_Table_hang, (["self", "up", "place", "ticket"] : List Str), (["self", "up", "place", "ticket"] : List Str), none, some ("Table", 0, "hang"), d_11⟩
def e_12 : Ent := ⟨"Table", f_Table_tree, (["self", "ticket", "made", "kids", "kid"] : List Str), (["self", "ticket", "made"] : List Str), none, some ("Table", 0, "tree"), d_12⟩
def e_13 : Ent := ⟨"Table", f_Table_shape, (["self", "order", "at", "kid", "made", "ticket", "trees"] : List Str), (["self"] : List Str), none, some ("Table", 0, "shape"), d_13⟩
def e_14 : Ent := ⟨"table_of", f_table_of, (["kind", "shape", "table"] : List Str), (["kind", "shape"] : List Str), none, none, d_14⟩
def e_15 : Ent := ⟨"least", f_least, (["kind", "shape", "tree"] : List Str), (["kind", "shape"] : List Str), none, none, d_15⟩
def e_16 : Ent := ⟨"meet", f_meet, (["table", "one", "other", "winners", "winner", "loser", "found", "first"] : List Str), (["table", "one", "other"] : List Str), none, none, d_16⟩
def e_17 : Ent := ⟨"swap_sides", f_swap_sides, (["table", "ticket", "one", "other"] : List Str), (["table", "ticket"] : List Str), none, none, d_17⟩
def e_18 : Ent := ⟨"set_root", f_set_root, (["table", "ticket"] : List Str), (["table", "ticket"] : List Str), none, none, d_18⟩
def e_19 : Ent := ⟨"replace", f_replace, (["table", "ticket", "found", "up"] : List Str), (["table", "ticket", "found"] : List Str), none, none, d_19⟩
def e_20 : Ent := ⟨"joined_sides", f_joined_sides, (["table", "roots", "found", "work"] : List Str), (["table", "roots"] : List Str), none, none, d_20⟩
def e_21 : Ent := ⟨"taken_out", f_taken_out, (["table", "ticket", "found", "work"] : List Str), (["table", "ticket"] : List Str), none, none, d_21⟩
def e_22 : Ent := ⟨"lowered_sides", f_lowered_sides, (["table", "ticket"] : List Str), (["table", "ticket"] : List Str), none, none, d_22⟩
def e_23 : Ent := ⟨"tie", f_tie, (["table", "one", "other", "winner", "loser"] : List Str), (["table", "one", "other"] : List Str), none, none, d_23⟩
def e_24 : Ent := ⟨"freed", f_freed, (["table", "ticket", "kids", "kid"] : List Str), (["table", "ticket"] : List Str), none, none, d_24⟩
def e_25 : Ent := ⟨"loosen", f_loosen, (["table", "ticket", "up"] : List Str), (["table", "ticket"] : List Str), none, none, d_25⟩
def e_26 : Ent := ⟨"tied_all", f_tied_all, (["table", "trees", "work", "other"] : List Str), (["table", "trees"] : List Str), none, none, d_26⟩
def e_27 : Ent := ⟨"gathered", f_gathered, (["table", "trees", "work", "rows", "at", "other"] : List Str), (["table", "trees"] : List Str), none, none, d_27⟩
def e_28 : Ent := ⟨"pair_taken_out", f_pair_taken_out, (["table", "ticket", "left", "rows", "work"] : List Str), (["table", "ticket"] : List Str), none, none, d_28⟩
def e_29 : Ent := ⟨"pair_lowered", f_pair_lowered, (["table", "ticket"] : List Str), (["table", "ticket"] : List Str), none, none, d_29⟩
def e_30 : Ent := ⟨"by_ranks", f_by_ranks, (["table", "trees", "ticket"] : List Str), (["table", "trees"] : List Str), none, none, d_30⟩
def e_31 : Ent := ⟨"count_joined", f_count_joined, (["table", "one", "other", "first", "second", "carried", "found", "work", "rank", "row", "ticket"] : List Str), (["table", "one", "other"] : List Str), none, none, d_31⟩
def e_32 : Ent := ⟨"count_up", f_count_up, (["table", "ticket", "always", "work"] : List Str), (["table", "ticket", "always"] : List Str), none, none, d_32⟩
def e_33 : Ent := ⟨"change", f_change, (["table", "ticket", "up", "top", "kids", "others", "place", "kid"] : List Str), (["table", "ticket", "up"] : List Str), none, none, d_33⟩
def e_34 : Ent := ⟨"count_taken_out", f_count_taken_out, (["table", "ticket", "work", "left", "root"] : List Str), (["table", "ticket"] : List Str), none, none, d_34⟩
def e_35 : Ent := ⟨"cut_off", f_cut_off, (["table", "ticket", "work", "up"] : List Str), (["table", "ticket"] : List Str), none, none, d_35⟩
def e_36 : Ent := ⟨"cleared", f_cleared, (["table", "kept", "work", "ticket", "rank"] : List Str), (["table"] : List Str), none, none, d_36⟩
def e_37 : Ent := ⟨"cut_taken_out", f_cut_taken_out, (["table", "ticket", "work"] : List Str), (["table", "ticket"] : List Str), none, none, d_37⟩
def e_38 : Ent := ⟨"all_joined", f_all_joined, (["table", "roots"] : List Str), (["table", "roots"] : List Str), none, none, d_38⟩
def e_39 : Ent := ⟨"gone", f_gone, (["table", "ticket", "work"] : List Str), (["table", "ticket"] : List Str), none, none, d_39⟩
def e_40 : Ent := ⟨"moved", f_moved, (["table", "ticket", "up"] : List Str), (["table", "ticket"] : List Str), none, none, d_40⟩
def e_41 : Ent := ⟨"joined_deeds", f_joined_deeds, (["kind", "one", "other", "table", "known", "more", "ticket", "work"] : List Str), (["kind", "one", "other"] : List Str), none, none, d_41⟩
def e_42 : Ent := ⟨"put", f_put, (["kind", "shape", "item", "table", "work"] : List Str), (["kind", "shape", "item"] : List Str), none, none, d_42⟩
def e_43 : Ent := ⟨"taken", f_taken, (["kind", "shape", "table", "item", "work"] : List Str), (["kind", "shape"] : List Str), none, none, d_43⟩
def e_44 : Ent := ⟨"check_ticket", f_check_ticket, (["table", "ticket"] : List Str), (["table", "ticket"] : List Str), none, none, d_44⟩
def e_45 : Ent := ⟨"lowered_deeds", f_lowered_deeds, (["kind", "shape", "ticket", "key", "table", "work"] : List Str), (["kind", "shape", "ticket", "key"] : List Str), none, none, d_45⟩
def e_46 : Ent := ⟨"dropped", f_dropped, (["kind", "shape", "ticket", "table", "work"] : List Str), (["kind", "shape", "ticket"] : List Str), none, none, d_46⟩
def e_47 : Ent := ⟨"_law_stir", f_law_stir, (["cell", "k", "number"] : List Str), (["cell", "k"] : List Str), none, none, d_47⟩
def e_48 : Ent := ⟨"_law_source", f_law_source, (["cell"] : List Str), (["cell"] : List Str), none, none, d_48⟩
def e_49 : Ent := ⟨"_law_take", f_law_take, (["source", "size", "found"] : List Str), (["source", "size"] : List Str), none, none, d_49⟩
def e_50 : Ent := ⟨"_law_one_of", f_law_one_of, (["source", "some"] : List Str), (["source", "some"] : List Str), none, none, d_50⟩
def e_51 : Ent := ⟨"_law_sort", f_law_sort, (["thing"] : List Str), (["thing"] : List Str), none, none, d_51⟩
def e_52 : Ent := ⟨"_law_same", f_law_same, (["told", "due", "k", "part"] : List Str), (["told", "due"] : List Str), none, none, d_52⟩
def e_53 : Ent := ⟨"_law_key", f_law_key, (["source", "way"] : List Str), (["source"] : List Str), none, none, d_53⟩
def e_54 : Ent := ⟨"_law_tie", f_law_tie, (["which", "one", "other"] : List Str), (["which", "one", "other"] : List Str), none, none, d_54⟩
def e_55 : Ent := ⟨"_law_trees", f_law_trees, (["which", "shape"] : List Str), (["which", "shape"] : List Str), none, none, d_55⟩
def e_56 : Ent := ⟨"_law_kids", f_law_kids, (["which", "tree", "side"] : List Str), (["which", "tree"] : List Str), none, none, d_56⟩
def e_57 : Ent := ⟨"_law_items", f_law_items, (["which", "shape", "found", "waiting", "tree"] : List Str), (["which", "shape"] : List Str), none, none, d_57⟩
def e_58 : Ent := ⟨"_law_deed", f_law_deed, (["source", "items", "ticket", "way", "item", "key"] : List Str), (["source", "items", "ticket"] : List Str), none, none, d_58⟩
def e_59 : Ent := ⟨"_law_pair_join", f_law_pair_join, (["which", "one", "other"] : List Str), (["which", "one", "other"] : List Str), none, none, d_59⟩
def e_60 : Ent := ⟨"_law_by_program", f_law_by_program, (["which", "shape", "deed"] : List Str), (["which", "shape", "deed"] : List Str), none, none, d_60⟩
def e_61 : Ent := ⟨"_law_grown", f_law_grown, (["source", "which", "many", "ticket", "shape", "k"] : List Str), (["source", "which", "many", "ticket"] : List Str), none, none, d_61⟩
def e_62 : Ent := ⟨"law", f_law, (["script", "cell", "source", "one", "other", "item", "left", "right"] : List Str), (["script"] : List Str), none, none, d_62⟩
def tab : List Ent := [e_0, e_1, e_2, e_3, e_4, e_5, e_6, e_7, e_8, e_9, e_10, e_11, e_12, e_13, e_14, e_15, e_16, e_17, e_18, e_19, e_20, e_21, e_22, e_23, e_24, e_25, e_26, e_27, e_28, e_29, e_30, e_31, e_32, e_33, e_34, e_35, e_36, e_37, e_38, e_39, e_40, e_41, e_42, e_43, e_44, e_45, e_46, e_47, e_48, e_49, e_50, e_51, e_52, e_53, e_54, e_55, e_56, e_57, e_58, e_59, e_60, e_61, e_62]
theorem chk_0 : (scopeB e_0.N e_0.ps e_0.d.scope && (chkCs (cxOfE tab csts free flds e_0.N e_0.d.scope) b_is_whole.body e_0.d.body)) = true := by decide +kernel
theorem chk_1 : (scopeB e_1.N e_1.ps e_1.d.scope && (chkCs (cxOfE tab csts free flds e_1.N e_1.d.scope) b_trees_of.body e_1.d.body)) = true := by decide +kernel
theorem chk_2 : (scopeB e_2.N e_2.ps e_2.d.scope && (chkCs (cxOfE tab csts free flds e_2.N e_2.d.scope) b_kids_of.body e_2.d.body)) = true := by decide +kernel
theorem chk_3 : (scopeB e_3.N e_3.ps e_3.d.scope && (chkCs (cxOfE tab csts free flds e_3.N e_3.d.scope) b_Table_init__.body e_3.d.body)) = true := by decide +kernel
theorem chk_4 : (scopeB e_4.N e_4.ps e_4.d.scope && (chkCs (cxOfE tab csts free flds e_4.N e_4.d.scope) b_Table_add.body e_4.d.body)) = true := by decide +kernel
theorem chk_5 : (scopeB e_5.N e_5.ps e_5.d.scope && (chkCs (cxOfE tab csts free flds e_5.N e_5.d.scope) b_Table_item.body e_5.d.body)) = true := by decide +kernel
theorem chk_6 : (scopeB e_6.N e_6.ps e_6.d.scope && (chkCs (cxOfE tab csts free flds e_6.N e_6.d.scope) b_Table_is_less.body e_6.d.body)) = true := by decide +kernel
theorem chk_7 : (scopeB e_7.N e_7.ps e_7.d.scope && (chkCs (cxOfE tab csts free flds e_7.N e_7.d.scope) b_Table_sorted_two.body e_7.d.body)) = true := by decide +kernel
theorem chk_8 : (scopeB e_8.N e_8.ps e_8.d.scope && (chkCs (cxOfE tab csts free flds e_8.N e_8.d.scope) b_Table_opened.body e_8.d.body)) = true := by decide +kernel
theorem chk_9 : (scopeB e_9.N e_9.ps e_9.d.scope && (chkCs (cxOfE tab csts free flds e_9.N e_9.d.scope) b_Table_set_rank.body e_9.d.body)) = true := by decide +kernel
theorem chk_10 : (scopeB e_10.N e_10.ps e_10.d.scope && (chkCs (cxOfE tab csts free flds e_10.N e_10.d.scope) b_Table_rank.body e_10.d.body)) = true := by decide +kernel
theorem chk_11 : (scopeB e_11.N e_11.ps e_11.d.scope && (chkCs (cxOfE tab csts free flds e_11.N e_11.d.scope) b_Table_hang.body e_11.d.body)) = true := by decide +kernel
theorem chk_12 : (scopeB e_12.N e_12.ps e_12.d.scope && (chkCs (cxOfE tab csts free flds e_12.N e_12.d.scope) b_Table_tree.body e_12.d.body)) = true := by decide +kernel
theorem chk_13 : (scopeB e_13.N e_13.ps e_13.d.scope && (chkCs (cxOfE tab csts free flds e_13.N e_13.d.scope) b_Table_shape.body e_13.d.body)) = true := by decide +kernel
theorem chk_14 : (scopeB e_14.N e_14.ps e_14.d.scope && (chkCs (cxOfE tab csts free flds e_14.N e_14.d.scope) b_table_of.body e_14.d.body)) = true := by decide +kernel
theorem chk_15 : (scopeB e_15.N e_15.ps e_15.d.scope && (chkCs (cxOfE tab csts free flds e_15.N e_15.d.scope) b_least.body e_15.d.body)) = true := by decide +kernel
theorem chk_16 : (scopeB e_16.N e_16.ps e_16.d.scope && (chkCs (cxOfE tab csts free flds e_16.N e_16.d.scope) b_meet.body e_16.d.body)) = true := by decide +kernel
theorem chk_17 : (scopeB e_17.N e_17.ps e_17.d.scope && (chkCs (cxOfE tab csts free flds e_17.N e_17.d.scope) b_swap_sides.body e_17.d.body)) = true := by decide +kernel
theorem chk_18 : (scopeB e_18.N e_18.ps e_18.d.scope && (chkCs (cxOfE tab csts free flds e_18.N e_18.d.scope) b_set_root.body e_18.d.body)) = true := by decide +kernel
theorem chk_19 : (scopeB e_19.N e_19.ps e_19.d.scope && (chkCs (cxOfE tab csts free flds e_19.N e_19.d.scope) b_replace.body e_19.d.body)) = true := by decide +kernel
theorem chk_20 : (scopeB e_20.N e_20.ps e_20.d.scope && (chkCs (cxOfE tab csts free flds e_20.N e_20.d.scope) b_joined_sides.body e_20.d.body)) = true := by decide +kernel
theorem chk_21 : (scopeB e_21.N e_21.ps e_21.d.scope && (chkCs (cxOfE tab csts free flds e_21.N e_21.d.scope) b_taken_out.body e_21.d.body)) = true := by decide +kernel
theorem chk_22 : (scopeB e_22.N e_22.ps e_22.d.scope && (chkCs (cxOfE tab csts free flds e_22.N e_22.d.scope) b_lowered_sides.body e_22.d.body)) = true := by decide +kernel
theorem chk_23 : (scopeB e_23.N e_23.ps e_23.d.scope && (chkCs (cxOfE tab csts free flds e_23.N e_23.d.scope) b_tie.body e_23.d.body)) = true := by decide +kernel
theorem chk_24 : (scopeB e_24.N e_24.ps e_24.d.scope && (chkCs (cxOfE tab csts free flds e_24.N e_24.d.scope) b_freed.body e_24.d.body)) = true := by decide +kernel
theorem chk_25 : (scopeB e_25.N e_25.ps e_25.d.scope && (chkCs (cxOfE tab csts free flds e_25.N e_25.d.scope) b_loosen.body e_25.d.body)) = true := by decide +kernel
theorem chk_26 : (scopeB e_26.N e_26.ps e_26.d.scope && (chkCs (cxOfE tab csts free flds e_26.N e_26.d.scope) b_tied_all.body e_26.d.body)) = true := by decide +kernel
theorem chk_27 : (scopeB e_27.N e_27.ps e_27.d.scope && (chkCs (cxOfE tab csts free flds e_27.N e_27.d.scope) b_gathered.body e_27.d.body)) = true := by decide +kernel
theorem chk_28 : (scopeB e_28.N e_28.ps e_28.d.scope && (chkCs (cxOfE tab csts free flds e_28.N e_28.d.scope) b_pair_taken_out.body e_28.d.body)) = true := by decide +kernel
theorem chk_29 : (scopeB e_29.N e_29.ps e_29.d.scope && (chkCs (cxOfE tab csts free flds e_29.N e_29.d.scope) b_pair_lowered.body e_29.d.body)) = true := by decide +kernel
theorem chk_30 : (scopeB e_30.N e_30.ps e_30.d.scope && (chkCs (cxOfE tab csts free flds e_30.N e_30.d.scope) b_by_ranks.body e_30.d.body)) = true := by decide +kernel
theorem chk_31 : (scopeB e_31.N e_31.ps e_31.d.scope && (chkCs (cxOfE tab csts free flds e_31.N e_31.d.scope) b_count_joined.body e_31.d.body)) = true := by decide +kernel
theorem chk_32 : (scopeB e_32.N e_32.ps e_32.d.scope && (chkCs (cxOfE tab csts free flds e_32.N e_32.d.scope) b_count_up.body e_32.d.body)) = true := by decide +kernel
theorem chk_33 : (scopeB e_33.N e_33.ps e_33.d.scope && (chkCs (cxOfE tab csts free flds e_33.N e_33.d.scope) b_change.body e_33.d.body)) = true := by decide +kernel
theorem chk_34 : (scopeB e_34.N e_34.ps e_34.d.scope && (chkCs (cxOfE tab csts free flds e_34.N e_34.d.scope) b_count_taken_out.body e_34.d.body)) = true := by decide +kernel
theorem chk_35 : (scopeB e_35.N e_35.ps e_35.d.scope && (chkCs (cxOfE tab csts free flds e_35.N e_35.d.scope) b_cut_off.body e_35.d.body)) = true := by decide +kernel
theorem chk_36 : (scopeB e_36.N e_36.ps e_36.d.scope && (chkCs (cxOfE tab csts free flds e_36.N e_36.d.scope) b_cleared.body e_36.d.body)) = true := by decide +kernel
theorem chk_37 : (scopeB e_37.N e_37.ps e_37.d.scope && (chkCs (cxOfE tab csts free flds e_37.N e_37.d.scope) b_cut_taken_out.body e_37.d.body)) = true := by decide +kernel
theorem chk_38 : (scopeB e_38.N e_38.ps e_38.d.scope && (chkCs (cxOfE tab csts free flds e_38.N e_38.d.scope) b_all_joined.body e_38.d.body)) = true := by decide +kernel
theorem chk_39 : (scopeB e_39.N e_39.ps e_39.d.scope && (chkCs (cxOfE tab csts free flds e_39.N e_39.d.scope) b_gone.body e_39.d.body)) = true := by decide +kernel
theorem chk_40 : (scopeB e_40.N e_40.ps e_40.d.scope && (chkCs (cxOfE tab csts free flds e_40.N e_40.d.scope) b_moved.body e_40.d.body)) = true := by decide +kernel
theorem chk_41 : (scopeB e_41.N e_41.ps e_41.d.scope && (chkCs (cxOfE tab csts free flds e_41.N e_41.d.scope) b_joined_deeds.body e_41.d.body)) = true := by decide +kernel
theorem chk_42 : (scopeB e_42.N e_42.ps e_42.d.scope && (chkCs (cxOfE tab csts free flds e_42.N e_42.d.scope) b_put.body e_42.d.body)) = true := by decide +kernel
theorem chk_43 : (scopeB e_43.N e_43.ps e_43.d.scope && (chkCs (cxOfE tab csts free flds e_43.N e_43.d.scope) b_taken.body e_43.d.body)) = true := by decide +kernel
theorem chk_44 : (scopeB e_44.N e_44.ps e_44.d.scope && (chkCs (cxOfE tab csts free flds e_44.N e_44.d.scope) b_check_ticket.body e_44.d.body)) = true := by decide +kernel
theorem chk_45 : (scopeB e_45.N e_45.ps e_45.d.scope && (chkCs (cxOfE tab csts free flds e_45.N e_45.d.scope) b_lowered_deeds.body e_45.d.body)) = true := by decide +kernel
theorem chk_46 : (scopeB e_46.N e_46.ps e_46.d.scope && (chkCs (cxOfE tab csts free flds e_46.N e_46.d.scope) b_dropped.body e_46.d.body)) = true := by decide +kernel
theorem chk_47 : (scopeB e_47.N e_47.ps e_47.d.scope && (chkCs (cxOfE tab csts free flds e_47.N e_47.d.scope) b_law_stir.body e_47.d.body)) = true := by decide +kernel
theorem chk_48 : (scopeB e_48.N e_48.ps e_48.d.scope && (chkCs (cxOfE tab csts free flds e_48.N e_48.d.scope) b_law_source.body e_48.d.body)) = true := by decide +kernel
theorem chk_49 : (scopeB e_49.N e_49.ps e_49.d.scope && (chkCs (cxOfE tab csts free flds e_49.N e_49.d.scope) b_law_take.body e_49.d.body)) = true := by decide +kernel
theorem chk_50 : (scopeB e_50.N e_50.ps e_50.d.scope && (chkCs (cxOfE tab csts free flds e_50.N e_50.d.scope) b_law_one_of.body e_50.d.body)) = true := by decide +kernel
theorem chk_51 : (scopeB e_51.N e_51.ps e_51.d.scope && (chkCs (cxOfE tab csts free flds e_51.N e_51.d.scope) b_law_sort.body e_51.d.body)) = true := by decide +kernel
theorem chk_52 : (scopeB e_52.N e_52.ps e_52.d.scope && (chkCs (cxOfE tab csts free flds e_52.N e_52.d.scope) b_law_same.body e_52.d.body)) = true := by decide +kernel
theorem chk_53 : (scopeB e_53.N e_53.ps e_53.d.scope && (chkCs (cxOfE tab csts free flds e_53.N e_53.d.scope) b_law_key.body e_53.d.body)) = true := by decide +kernel
theorem chk_54 : (scopeB e_54.N e_54.ps e_54.d.scope && (chkCs (cxOfE tab csts free flds e_54.N e_54.d.scope) b_law_tie.body e_54.d.body)) = true := by decide +kernel
theorem chk_55 : (scopeB e_55.N e_55.ps e_55.d.scope && (chkCs (cxOfE tab csts free flds e_55.N e_55.d.scope) b_law_trees.body e_55.d.body)) = true := by decide +kernel
theorem chk_56 : (scopeB e_56.N e_56.ps e_56.d.scope && (chkCs (cxOfE tab csts free flds e_56.N e_56.d.scope) b_law_kids.body e_56.d.body)) = true := by decide +kernel
theorem chk_57 : (scopeB e_57.N e_57.ps e_57.d.scope && (chkCs (cxOfE tab csts free flds e_57.N e_57.d.scope) b_law_items.body e_57.d.body)) = true := by decide +kernel
theorem chk_58 : (scopeB e_58.N e_58.ps e_58.d.scope && (chkCs (cxOfE tab csts free flds e_58.N e_58.d.scope) b_law_deed.body e_58.d.body)) = true := by decide +kernel
theorem chk_59 : (scopeB e_59.N e_59.ps e_59.d.scope && (chkCs (cxOfE tab csts free flds e_59.N e_59.d.scope) b_law_pair_join.body e_59.d.body)) = true := by decide +kernel
theorem chk_60 : (scopeB e_60.N e_60.ps e_60.d.scope && (chkCs (cxOfE tab csts free flds e_60.N e_60.d.scope) b_law_by_program.body e_60.d.body)) = true := by decide +kernel
theorem chk_61 : (scopeB e_61.N e_61.ps e_61.d.scope && (chkCs (cxOfE tab csts free flds e_61.N e_61.d.scope) b_law_grown.body e_61.d.body)) = true := by decide +kernel
theorem chk_62 : (scopeB e_62.N e_62.ps e_62.d.scope && (chkCs (cxOfE tab csts free flds e_62.N e_62.d.scope) b_law.body e_62.d.body)) = true := by decide +kernel
theorem fa_of {K : Fg} (c : He.SaysD fa dd K) {f : He.Fa} (h : f ∈ fa) : f.ok K = true := List.all_eq_true.mp (He.ba (show ((fa.all fun f => f.ok K) && dd.all fun d => d.ok K) = true from congrArg (fun z : He.AlD => z.1) c)).1 _ h
theorem fa_glo {d : He.DefD} (h : d ∈ dd) : He.Fa.glo d.at_.1 ∈ fa := List.mem_append_left _ (List.mem_map_of_mem h)
theorem fa_free {x : Str} (h : x ∈ free) : He.Fa.free x ∈ fa := List.mem_append_right _ (List.mem_append_left _ (List.mem_map_of_mem h))
theorem fa_fld {f : He.Fa} (h : f ∈ fldFa cs flds) : f ∈ fa := List.mem_append_right _ (List.mem_append_right _ (List.mem_append_left _ h))
theorem fa_m {f : He.Fa} (h : f ∈ faM) : f ∈ fa := List.mem_append_right _ (List.mem_append_right _ (List.mem_append_right _ (List.mem_append_left _ h)))
theorem fa_c {f : He.Fa} (h : f ∈ faC) : f ∈ fa := List.mem_append_right _ (List.mem_append_right _ (List.mem_append_right _ (List.mem_append_right _ h)))
theorem ent_0 {K : Fg} {h : Heap} {mg : Str → Option Value} (X : K.In h) (G : h.Ns mainGlobals mg) (c : He.SaysD fa dd K) : ∃ fd, EntOk K mg (clOf K cs) PP tab csts free flds e_0 fd := by
  obtain ⟨fd, F⟩ := c.def_ 0 (d := d_0) rfl
  obtain ⟨k1, k2⟩ := and2 chk_0
  have g : (He.Fa.glo d_0.at_.1).ok K = true := c.fact 0 (f := He.Fa.glo d_0.at_.1) rfl
  exact ⟨fd, F, (fun _ => He.glo_ok X G g), (fun _ _ _ z => nomatch z), (FunD.bindsN F fun _ _ _ _ _ _ us hl => match us, hl with | [_, _, _], _ => rfl), k1, b_is_whole, rfl, rfl, rfl, k2⟩
theorem ent_1 {K : Fg} {h : Heap} {mg : Str → Option Value} (X : K.In h) (G : h.Ns mainGlobals mg) (c : He.SaysD fa dd K) : ∃ fd, EntOk K mg (clOf K cs) PP tab csts free flds e_1 fd := by
  obtain ⟨fd, F⟩ := c.def_ 1 (d := d_1) rfl
  obtain ⟨k1, k2⟩ := and2 chk_1
  have g : (He.Fa.glo d_1.at_.1).ok K = true := c.fact 1 (f := He.Fa.glo d_1.at_.1) rfl
  exact ⟨fd, F, (fun _ => He.glo_ok X G g), (fun _ _ _ z => nomatch z), (FunD.bindsN F fun _ _ _ _ _ _ us hl => match us, hl with | [_, _], _ => rfl), k1, b_trees_of, rfl, rfl, rfl, k2⟩
theorem ent_2 {K : Fg} {h : Heap} {mg : Str → Option Value} (X : K.In h) (G : h.Ns mainGlobals mg) (c : He.SaysD fa dd K) : ∃ fd, EntOk K mg (clOf K cs) PP tab csts free flds e_2 fd := by
  obtain ⟨fd, F⟩ := c.def_ 2 (d := d_2) rfl
  obtain ⟨k1, k2⟩ := and2 chk_2
  have g : (He.Fa.glo d_2.at_.1).ok K = true := c.fact 2 (f := He.Fa.glo d_2.at_.1) rfl
  exact ⟨fd, F, (fun _ => He.glo_ok X G g), (fun _ _ _ z => nomatch z), (FunD.bindsN F fun _ _ _ _ _ _ us hl => match us, hl with | [_, _], _ => rfl), k1, b_kids_of, rfl, rfl, rfl, k2⟩
theorem ent_3 {K : Fg} {h : Heap} {mg : Str → Option Value} (X : K.In h) (G : h.Ns mainGlobals mg) (c : He.SaysD fa dd K) : ∃ fd, EntOk K mg (clOf K cs) PP tab csts free flds e_3 fd := by
  obtain ⟨fd, F⟩ := c.def_ 3 (d := d_3) rfl
  obtain ⟨k1, k2⟩ := and2 chk_3
  have g : (He.Fa.glo d_3.at_.1).ok K = true := c.fact 3 (f := He.Fa.glo d_3.at_.1) rfl
  have gc : (He.Fa.cls "Table").ok K = true := fa_of c (fa_c (List.mem_of_getElem? (show faC[3]? = some (He.Fa.cls "Table") from rfl)))
  have gm : (He.Fa.mkr "Table").ok K = true := fa_of c (fa_m (List.mem_of_getElem? (show faM[3]? = some (He.Fa.mkr "Table") from rfl)))
  exact ⟨fd, F, (fun z => nomatch z), (fun x k m e => by cases e; exact ⟨rfl, He.ga K "Table", rfl, He.cls_ok gc, fun z => absurd rfl z, fun _ => ⟨He.mkr_ok gm, He.glo_ok X G g⟩⟩), (FunD.bindsN F fun _ _ _ _ _ _ us hl => match us, hl with | [_, _], _ => rfl), k1, b_Table_init__, rfl, rfl, rfl, k2⟩
theorem ent_4 {K : Fg} {h : Heap} {mg : Str → Option Value} (X : K.In h) (G : h.Ns mainGlobals mg) (c : He.SaysD fa dd K) : ∃ fd, EntOk K mg (clOf K cs) PP tab csts free flds e_4 fd := by
  obtain ⟨fd, F⟩ := c.def_ 4 (d := d_4) rfl
  obtain ⟨k1, k2⟩ := and2 chk_4
  have g : (He.Fa.glo d_4.at_.1).ok K = true := c.fact 4 (f := He.Fa.glo d_4.at_.1) rfl
  have gc : (He.Fa.cls "Table").ok K = true := fa_of c (fa_c (List.mem_of_getElem? (show faC[4]? = some (He.Fa.cls "Table") from rfl)))
  have gm : (He.Fa.meth "Table" "add").ok K = true := fa_of c (fa_m (List.mem_of_getElem? (show faM[4]? = some (He.Fa.meth "Table" "add") from rfl)))
  exact ⟨fd, F, (fun z => nomatch z), (fun x k m e => by cases e; exact ⟨rfl, He.ga K "Table", rfl, He.cls_ok gc, fun _ => He.meth_ok gm, fun z => absurd z (by decide)⟩), (FunD.bindsN F fun _ _ _ _ _ _ us hl => match us, hl with | [_, _], _ => rfl), k1, b_Table_add, rfl, rfl, rfl, k2⟩
theorem ent_5 {K : Fg} {h : Heap} {mg : Str → Option Value} (X : K.In h) (G : h.Ns mainGlobals mg) (c : He.SaysD fa dd K) : ∃ fd, EntOk K mg (clOf K cs) PP tab csts free flds e_5 fd := by
  obtain ⟨fd, F⟩ := c.def_ 5 (d := d_5) rfl
  obtain ⟨k1, k2⟩ := and2 chk_5
  have g : (He.Fa.glo d_5.at_.1).ok K = true := c.fact 5 (f := He.Fa.glo d_5.at_.1) rfl
  have gc : (He.Fa.cls "Table").ok K = true := fa_of c (fa_c (List.mem_of_getElem? (show faC[5]? = some (He.Fa.cls "Table") from rfl)))
  have gm : (He.Fa.meth "Table" "item").ok K = true := fa_of c (fa_m (List.mem_of_getElem? (show faM[5]? = some (He.Fa.meth "Table" "item") from rfl)))
  exact ⟨fd, F, (fun z => nomatch z), (fun x k m e => by cases e; exact ⟨rfl, He.ga K "Table", rfl, He.cls_ok gc, fun _ => He.meth_ok gm, fun z => absurd z (by decide)⟩), (FunD.bindsN F fun _ _ _ _ _ _ us hl => match us, hl with | [_, _], _ => rfl), k1, b_Table_item, rfl, rfl, rfl, k2⟩
theorem ent_6 {K : Fg} {h : Heap} {mg : Str → Option Value} (X : K.In h) (G : h.Ns mainGlobals mg) (c : He.SaysD fa dd K) : ∃ fd, EntOk K mg (clOf K cs) PP tab csts free flds e_6 fd := by
  obtain ⟨fd, F⟩ := c.def_ 6 (d := d_6) rfl
  obtain ⟨k1, k2⟩ := and2 chk_6
  have g : (He.Fa.glo d_6.at_.1).ok K = true := c.fact 6 (f := He.Fa.glo d_6.at_.1) rfl
  have gc : (He.Fa.cls "Table").ok K = true := fa_of c (fa_c (List.mem_of_getElem? (show faC[6]? = some (He.Fa.cls "Table") from rfl)))
  have gm : (He.Fa.meth "Table" "is_less").ok K = true := fa_of c (fa_m (List.mem_of_getElem? (show faM[6]? = some (He.Fa.meth "Table" "is_less") from rfl)))
  exact ⟨fd, F, (fun z => nomatch z), (fun x k m e => by cases e; exact ⟨rfl, He.ga K "Table", rfl, He.cls_ok gc, fun _ => He.meth_ok gm, fun z => absurd z (by decide)⟩), (FunD.bindsN F fun _ _ _ _ _ _ us hl => match us, hl with | [_, _, _], _ => rfl), k1, b_Table_is_less, rfl, rfl, rfl, k2⟩
theorem ent_7 {K : Fg} {h : Heap} {mg : Str → Option Value} (X : K.In h) (G : h.Ns mainGlobals mg) (c : He.SaysD fa dd K) : ∃ fd, EntOk K mg (clOf K cs) PP tab csts free flds e_7 fd := by
  obtain ⟨fd, F⟩ := c.def_ 7 (d := d_7) rfl
  obtain ⟨k1, k2⟩ := and2 chk_7
  have g : (He.Fa.glo d_7.at_.1).ok K = true := c.fact 7 (f := He.Fa.glo d_7.at_.1) rfl
  have gc : (He.Fa.cls "Table").ok K = true := fa_of c (fa_c (List.mem_of_getElem? (show faC[7]? = some (He.Fa.cls "Table") from rfl)))
  have gm : (He.Fa.meth "Table" "sorted_two").ok K = true := fa_of c (fa_m (List.mem_of_getElem? (show faM[7]? = some (He.Fa.meth "Table" "sorted_two") from rfl)))
  exact ⟨fd, F, (fun z => nomatch z), (fun x k m e => by cases e; exact ⟨rfl, He.ga K "Table", rfl, He.cls_ok gc, fun _ => He.meth_ok gm, fun z => absurd z (by decide)⟩), (FunD.bindsN F fun _ _ _ _ _ _ us hl => match us, hl with | [_, _, _], _ => rfl), k1, b_Table_sorted_two, rfl, rfl, rfl, k2⟩
theorem ent_8 {K : Fg} {h : Heap} {mg : Str → Option Value} (X : K.In h) (G : h.Ns mainGlobals mg) (c : He.SaysD fa dd K) : ∃ fd, EntOk K mg (clOf K cs) PP tab csts free flds e_8 fd := by
  obtain ⟨fd, F⟩ := c.def_ 8 (d := d_8) rfl
  obtain ⟨k1, k2⟩ := and2 chk_8
  have g : (He.Fa.glo d_8.at_.1).ok K = true := c.fact 8 (f := He.Fa.glo d_8.at_.1) rfl
  have gc : (He.Fa.cls "Table").ok K = true := fa_of c (fa_c (List.mem_of_getElem? (show faC[8]? = some (He.Fa.cls "Table") from rfl)))
  have gm : (He.Fa.meth "Table" "opened").ok K = true := fa_of c (fa_m (List.mem_of_getElem? (show faM[8]? = some (He.Fa.meth "Table" "opened") from rfl)))
  exact ⟨fd, F, (fun z => nomatch z), (fun x k m e => by cases e; exact ⟨rfl, He.ga K "Table", rfl, He.cls_ok gc, fun _ => He.meth_ok gm, fun z => absurd z (by decide)⟩), (FunD.bindsN F fun _ _ _ _ _ _ us hl => match us, hl with | [_, _], _ => rfl), k1, b_Table_opened, rfl, rfl, rfl, k2⟩
theorem ent_9 {K : Fg} {h : Heap} {mg : Str → Option Value} (X : K.In h) (G : h.Ns mainGlobals mg) (c : He.SaysD fa dd K) : ∃ fd, EntOk K mg (clOf K cs) PP tab csts free flds e_9 fd := by
  obtain ⟨fd, F⟩ := c.def_ 9 (d := d_9) rfl
  obtain ⟨k1, k2⟩ := and2 chk_9
  have g : (He.Fa.glo d_9.at_.1).ok K = true := c.fact 9 (f := He.Fa.glo d_9.at_.1) rfl
  have gc : (He.Fa.cls "Table").ok K = true := fa_of c (fa_c (List.mem_of_getElem? (show faC[9]? = some (He.Fa.cls "Table") from rfl)))
  have gm : (He.Fa.meth "Table" "set_rank").ok K = true := fa_of c (fa_m (List.mem_of_getElem? (show faM[9]? = some (He.Fa.meth "Table" "set_rank") from rfl)))
  exact ⟨fd, F, (fun z => nomatch z), (fun x k m e => by cases e; exact ⟨rfl, He.ga K "Table", rfl, He.cls_ok gc, fun _ => He.meth_ok gm, fun z => absurd z (by decide)⟩), (FunD.bindsN F fun _ _ _ _ _ _ us hl => match us, hl with | [_, _], _ => rfl), k1, b_Table_set_rank, rfl, rfl, rfl, k2⟩
theorem ent_10 {K : Fg} {h : Heap} {mg : Str → Option Value} (X : K.In h) (G : h.Ns mainGlobals mg) (c : He.SaysD fa dd K) : ∃ fd, EntOk K mg (clOf K cs) PP tab csts free flds e_10 fd := by
  obtain ⟨fd, F⟩ := c.def_ 10 (d := d_10) rfl
  obtain ⟨k1, k2⟩ := and2 chk_10
  have g : (He.Fa.glo d_10.at_.1).ok K = true := c.fact 10 (f := He.Fa.glo d_10.at_.1) rfl
  have gc : (He.Fa.cls "Table").ok K = true := fa_of c (fa_c (List.mem_of_getElem? (show faC[10]? = some (He.Fa.cls "Table") from rfl)))
  have gm : (He.Fa.meth "Table" "rank").ok K = true := fa_of c (fa_m (List.mem_of_getElem? (show faM[10]? = some (He.Fa.meth "Table" "rank") from rfl)))
  exact ⟨fd, F, (fun z => nomatch z), (fun x k m e => by cases e; exact ⟨rfl, He.ga K "Table", rfl, He.cls_ok gc, fun _ => He.meth_ok gm, fun z => absurd z (by decide)⟩), (FunD.bindsN F fun _ _ _ _ _ _ us hl => match us, hl with | [_, _], _ => rfl), k1, b_Table_rank, rfl, rfl, rfl, k2⟩
theorem ent_11 {K : Fg} {h : Heap} {mg : Str → Option Value} (X : K.In h) (G : h.Ns mainGlobals mg) (c : He.SaysD fa dd K) : ∃ fd, EntOk K mg (clOf K cs) PP tab csts free flds e_11 fd := by
  obtain ⟨fd, F⟩ := c.def_ 11 (d := d_11) rfl
  obtain ⟨k1, k2⟩ := and2 chk_11
  have g : (He.Fa.glo d_11.at_.1).ok K = true := c.fact 11 (f := He.Fa.glo d_11.at_.1) rfl
  have gc : (He.Fa.cls "Table").ok K = true := fa_of c (fa_c (List.mem_of_getElem? (show faC[11]? = some (He.Fa.cls "Table") from rfl)))
  have gm : (He.Fa.meth "Table" "hang").ok K = true := fa_of c (fa_m (List.mem_of_getElem? (show faM[11]? = some (He.Fa.meth "Table" "hang") from rfl)))
  exact ⟨fd, F, (fun z => nomatch z), (fun x k m e => by cases e; exact ⟨rfl, He.ga K "Table", rfl, He.cls_ok gc, fun _ => He.meth_ok gm, fun z => absurd z (by decide)⟩), (FunD.bindsN F fun _ _ _ _ _ _ us hl => match us, hl with | [_, _, _, _], _ => rfl), k1, b_Table_hang, rfl, rfl, rfl, k2⟩
theorem ent_12 {K : Fg} {h : Heap} {mg : Str → Option Value} (X : K.In h) (G : h.Ns mainGlobals mg) (c : He.SaysD fa dd K) : ∃ fd, EntOk K mg (clOf K cs) PP tab csts free flds e_12 fd := by
  obtain ⟨fd, F⟩ := c.def_ 12 (d := d_12) rfl
  obtain ⟨k1, k2⟩ := and2 chk_12
  have g : (He.Fa.glo d_12.at_.1).ok K = true := c.fact 12 (f := He.Fa.glo d_12.at_.1) rfl
  have gc : (He.Fa.cls "Table").ok K = true := fa_of c (fa_c (List.mem_of_getElem? (show faC[12]? = some (He.Fa.cls "Table") from rfl)))
  have gm : (He.Fa.meth "Table" "tree").ok K = true := fa_of c (fa_m (List.mem_of_getElem? (show faM[12]? = some (He.Fa.meth "Table" "tree") from rfl)))
  exact ⟨fd, F, (fun z => nomatch z), (fun x k m e => by cases e; exact ⟨rfl, He.ga K "Table", rfl, He.cls_ok gc, fun _ => He.meth_ok gm, fun z => absurd z (by decide)⟩), (FunD.bindsN F fun _ _ _ _ _ _ us hl => match us, hl with | [_, _, _], _ => rfl), k1, b_Table_tree, rfl, rfl, rfl, k2⟩
theorem ent_13 {K : Fg} {h : Heap} {mg : Str → Option Value} (X : K.In h) (G : h.Ns mainGlobals mg) (c : He.SaysD fa dd K) : ∃ fd, EntOk K mg (clOf K cs) PP tab csts free flds e_13 fd := by
  obtain ⟨fd, F⟩ := c.def_ 13 (d := d_13) rfl
  obtain ⟨k1, k2⟩ := and2 chk_13
  have g : (He.Fa.glo d_13.at_.1).ok K = true := c.fact 13 (f := He.Fa.glo d_13.at_.1) rfl
  have gc : (He.Fa.cls "Table").ok K = true := fa_of c (fa_c (List.mem_of_getElem? (show faC[13]? = some (He.Fa.cls "Table") from rfl)))
  have gm : (He.Fa.meth "Table" "shape").ok K = true := fa_of c (fa_m (List.mem_of_getElem? (show faM[13]? = some (He.Fa.meth "Table" "shape") from rfl)))
  exact ⟨fd, F, (fun z => nomatch z), (fun x k m e => by cases e; exact ⟨rfl, He.ga K "Table", rfl, He.cls_ok gc, fun _ => He.meth_ok gm, fun z => absurd z (by decide)⟩), (FunD.bindsN F fun _ _ _ _ _ _ us hl => match us, hl with | [_], _ => rfl), k1, b_Table_shape, rfl, rfl, rfl, k2⟩
theorem ent_14 {K : Fg} {h : Heap} {mg : Str → Option Value} (X : K.In h) (G : h.Ns mainGlobals mg) (c : He.SaysD fa dd K) : ∃ fd, EntOk K mg (clOf K cs) PP tab csts free flds e_14 fd := by
  obtain ⟨fd, F⟩ := c.def_ 14 (d := d_14) rfl
  obtain ⟨k1, k2⟩ := and2 chk_14
  have g : (He.Fa.glo d_14.at_.1).ok K = true := c.fact 14 (f := He.Fa.glo d_14.at_.1) rfl
  exact ⟨fd, F, (fun _ => He.glo_ok X G g), (fun _ _ _ z => nomatch z), (FunD.bindsN F fun _ _ _ _ _ _ us hl => match us, hl with | [_, _], _ => rfl), k1, b_table_of, rfl, rfl, rfl, k2⟩
theorem ent_15 {K : Fg} {h : Heap} {mg : Str → Option Value} (X : K.In h) (G : h.Ns mainGlobals mg) (c : He.SaysD fa dd K) : ∃ fd, EntOk K mg (clOf K cs) PP tab csts free flds e_15 fd := by
  obtain ⟨fd, F⟩ := c.def_ 15 (d := d_15) rfl
  obtain ⟨k1, k2⟩ := and2 chk_15
  have g : (He.Fa.glo d_15.at_.1).ok K = true := c.fact 15 (f := He.Fa.glo d_15.at_.1) rfl
  exact ⟨fd, F, (fun _ => He.glo_ok X G g), (fun _ _ _ z => nomatch z), (FunD.bindsN F fun _ _ _ _ _ _ us hl => match us, hl with | [_, _], _ => rfl), k1, b_least, rfl, rfl, rfl, k2⟩
theorem ent_16 {K : Fg} {h : Heap} {mg : Str → Option Value} (X : K.In h) (G : h.Ns mainGlobals mg) (c : He.SaysD fa dd K) : ∃ fd, EntOk K mg (clOf K cs) PP tab csts free flds e_16 fd := by
  obtain ⟨fd, F⟩ := c.def_ 16 (d := d_16) rfl
  obtain ⟨k1, k2⟩ := and2 chk_16
  have g : (He.Fa.glo d_16.at_.1).ok K = true := c.fact 16 (f := He.Fa.glo d_16.at_.1) rfl
  exact ⟨fd, F, (fun _ => He.glo_ok X G g), (fun _ _ _ z => nomatch z), (FunD.bindsN F fun _ _ _ _ _ _ us hl => match us, hl with | [_, _, _], _ => rfl), k1, b_meet, rfl, rfl, rfl, k2⟩
theorem ent_17 {K : Fg} {h : Heap} {mg : Str → Option Value} (X : K.In h) (G : h.Ns mainGlobals mg) (c : He.SaysD fa dd K) : ∃ fd, EntOk K mg (clOf K cs) PP tab csts free flds e_17 fd := by
  obtain ⟨fd, F⟩ := c.def_ 17 (d := d_17) rfl
  obtain ⟨k1, k2⟩ := and2 chk_17
  have g : (He.Fa.glo d_17.at_.1).ok K = true := c.fact 17 (f := He.Fa.glo d_17.at_.1) rfl
  exact ⟨fd, F, (fun _ => He.glo_ok X G g), (fun _ _ _ z => nomatch z), (FunD.bindsN F fun _ _ _ _ _ _ us hl => match us, hl with | [_, _], _ => rfl), k1, b_swap_sides, rfl, rfl, rfl, k2⟩
theorem ent_18 {K : Fg} {h : Heap} {mg : Str → Option Value} (X : K.In h) (G : h.Ns mainGlobals mg) (c : He.SaysD fa dd K) : ∃ fd, EntOk K mg (clOf K cs) PP tab csts free flds e_18 fd := by
  obtain ⟨fd, F⟩ := c.def_ 18 (d := d_18) rfl
  obtain ⟨k1, k2⟩ := and2 chk_18
  have g : (He.Fa.glo d_18.at_.1).ok K = true := c.fact 18 (f := He.Fa.glo d_18.at_.1) rfl
  exact ⟨fd, F, (fun _ => He.glo_ok X G g), (fun _ _ _ z => nomatch z), (FunD.bindsN F fun _ _ _ _ _ _ us hl => match us, hl with | [_, _], _ => rfl), k1, b_set_root, rfl, rfl, rfl, k2⟩
theorem ent_19 {K : Fg} {h : Heap} {mg : Str → Option Value} (X : K.In h) (G : h.Ns mainGlobals mg) (c : He.SaysD fa dd K) : ∃ fd, EntOk K mg (clOf K cs) PP tab csts free flds e_19 fd := by
  obtain ⟨fd, F⟩ := c.def_ 19 (d := d_19) rfl
  obtain ⟨k1, k2⟩ := and2 chk_19
  have g : (He.Fa.glo d_19.at_.1).ok K = true := c.fact 19 (f := He.Fa.glo d_19.at_.1) rfl
  exact ⟨fd, F, (fun _ => He.glo_ok X G g), (fun _ _ _ z => nomatch z), (FunD.bindsN F fun _ _ _ _ _ _ us hl => match us, hl with | [_, _, _], _ => rfl), k1, b_replace, rfl, rfl, rfl, k2⟩
theorem ent_20 {K : Fg} {h : Heap} {mg : Str → Option Value} (X : K.In h) (G : h.Ns mainGlobals mg) (c : He.SaysD fa dd K) : ∃ fd, EntOk K mg (clOf K cs) PP tab csts free flds e_20 fd := by
  obtain ⟨fd, F⟩ := c.def_ 20 (d := d_20) rfl
  obtain ⟨k1, k2⟩ := and2 chk_20
  have g : (He.Fa.glo d_20.at_.1).ok K = true := c.fact 20 (f := He.Fa.glo d_20.at_.1) rfl
  exact ⟨fd, F, (fun _ => He.glo_ok X G g), (fun _ _ _ z => nomatch z), (FunD.bindsN F fun _ _ _ _ _ _ us hl => match us, hl with | [_, _], _ => rfl), k1, b_joined_sides, rfl, rfl, rfl, k2⟩
theorem ent_21 {K : Fg} {h : Heap} {mg : Str → Option Value} (X : K.In h) (G : h.Ns mainGlobals mg) (c : He.SaysD fa dd K) : ∃ fd, EntOk K mg (clOf K cs) PP tab csts free flds e_21 fd := by
  obtain ⟨fd, F⟩ := c.def_ 21 (d := d_21) rfl
  obtain ⟨k1, k2⟩ := and2 chk_21
  have g : (He.Fa.glo d_21.at_.1).ok K = true := c.fact 21 (f := He.Fa.glo d_21.at_.1) rfl
  exact ⟨fd, F, (fun _ => He.glo_ok X G g), (fun _ _ _ z => nomatch z), (FunD.bindsN F fun _ _ _ _ _ _ us hl => match us, hl with | [_, _], _ => rfl), k1, b_taken_out, rfl, rfl, rfl, k2⟩
theorem ent_22 {K : Fg} {h : Heap} {mg : Str → Option Value} (X : K.In h) (G : h.Ns mainGlobals mg) (c : He.SaysD fa dd K) : ∃ fd, EntOk K mg (clOf K cs) PP tab csts free flds e_22 fd := by
  obtain ⟨fd, F⟩ := c.def_ 22 (d := d_22) rfl
  obtain ⟨k1, k2⟩ := and2 chk_22
  have g : (He.Fa.glo d_22.at_.1).ok K = true := c.fact 22 (f := He.Fa.glo d_22.at_.1) rfl
  exact ⟨fd, F, (fun _ => He.glo_ok X G g), (fun _ _ _ z => nomatch z), (FunD.bindsN F fun _ _ _ _ _ _ us hl => match us, hl with | [_, _], _ => rfl), k1, b_lowered_sides, rfl, rfl, rfl, k2⟩
theorem ent_23 {K : Fg} {h : Heap} {mg : Str → Option Value} (X : K.In h) (G : h.Ns mainGlobals mg) (c : He.SaysD fa dd K) : ∃ fd, EntOk K mg (clOf K cs) PP tab csts free flds e_23 fd := by
  obtain ⟨fd, F⟩ := c.def_ 23 (d := d_23) rfl
  obtain ⟨k1, k2⟩ := and2 chk_23
  have g : (He.Fa.glo d_23.at_.1).ok K = true := c.fact 23 (f := He.Fa.glo d_23.at_.1) rfl
  exact ⟨fd, F, (fun _ => He.glo_ok X G g), (fun _ _ _ z => nomatch z), (FunD.bindsN F fun _ _ _ _ _ _ us hl => match us, hl with | [_, _, _], _ => rfl), k1, b_tie, rfl, rfl, rfl, k2⟩
theorem ent_24 {K : Fg} {h : Heap} {mg : Str → Option Value} (X : K.In h) (G : h.Ns mainGlobals mg) (c : He.SaysD fa dd K) : ∃ fd, EntOk K mg (clOf K cs) PP tab csts free flds e_24 fd := by
  obtain ⟨fd, F⟩ := c.def_ 24 (d := d_24) rfl
  obtain ⟨k1, k2⟩ := and2 chk_24
  have g : (He.Fa.glo d_24.at_.1).ok K = true := c.fact 24 (f := He.Fa.glo d_24.at_.1) rfl
  exact ⟨fd, F, (fun _ => He.glo_ok X G g), (fun _ _ _ z => nomatch z), (FunD.bindsN F fun _ _ _ _ _ _ us hl => match us, hl with | [_, _], _ => rfl), k1, b_freed, rfl, rfl, rfl, k2⟩
theorem ent_25 {K : Fg} {h : Heap} {mg : Str → Option Value} (X : K.In h) (G : h.Ns mainGlobals mg) (c : He.SaysD fa dd K) : ∃ fd, EntOk K mg (clOf K cs) PP tab csts free flds e_25 fd := by
  obtain ⟨fd, F⟩ := c.def_ 25 (d := d_25) rfl
  obtain ⟨k1, k2⟩ := and2 chk_25
  have g : (He.Fa.glo d_25.at_.1).ok K = true := c.fact 25 (f := He.Fa.glo d_25.at_.1) rfl
  exact ⟨fd, F, (fun _ => He.glo_ok X G g), (fun _ _ _ z => nomatch z), (FunD.bindsN F fun _ _ _ _ _ _ us hl => match us, hl with | [_, _], _ => rfl), k1, b_loosen, rfl, rfl, rfl, k2⟩
theorem ent_26 {K : Fg} {h : Heap} {mg : Str → Option Value} (X : K.In h) (G : h.Ns mainGlobals mg) (c : He.SaysD fa dd K) : ∃ fd, EntOk K mg (clOf K cs) PP tab csts free flds e_26 fd := by
  obtain ⟨fd, F⟩ := c.def_ 26 (d := d_26) rfl
  obtain ⟨k1, k2⟩ := and2 chk_26
  have g : (He.Fa.glo d_26.at_.1).ok K = true := c.fact 26 (f := He.Fa.glo d_26.at_.1) rfl
  exact ⟨fd, F, (fun _ => He.glo_ok X G g), (fun _ _ _ z => nomatch z), (FunD.bindsN F fun _ _ _ _ _ _ us hl => match us, hl with | [_, _], _ => rfl), k1, b_tied_all, rfl, rfl, rfl, k2⟩
theorem ent_27 {K : Fg} {h : Heap} {mg : Str → Option Value} (X : K.In h) (G : h.Ns mainGlobals mg) (c : He.SaysD fa dd K) : ∃ fd, EntOk K mg (clOf K cs) PP tab csts free flds e_27 fd := by
  obtain ⟨fd, F⟩ := c.def_ 27 (d := d_27) rfl
  obtain ⟨k1, k2⟩ := and2 chk_27
  have g : (He.Fa.glo d_27.at_.1).ok K = true := c.fact 27 (f := He.Fa.glo d_27.at_.1) rfl
  exact ⟨fd, F, (fun _ => He.glo_ok X G g), (fun _ _ _ z => nomatch z), (FunD.bindsN F fun _ _ _ _ _ _ us hl => match us, hl with | [_, _], _ => rfl), k1, b_gathered, rfl, rfl, rfl, k2⟩
theorem ent_28 {K : Fg} {h : Heap} {mg : Str → Option Value} (X : K.In h) (G : h.Ns mainGlobals mg) (c : He.SaysD fa dd K) : ∃ fd, EntOk K mg (clOf K cs) PP tab csts free flds e_28 fd := by
  obtain ⟨fd, F⟩ := c.def_ 28 (d := d_28) rfl
  obtain ⟨k1, k2⟩ := and2 chk_28
  have g : (He.Fa.glo d_28.at_.1).ok K = true := c.fact 28 (f := He.Fa.glo d_28.at_.1) rfl
  exact ⟨fd, F, (fun _ => He.glo_ok X G g), (fun _ _ _ z => nomatch z), (FunD.bindsN F fun _ _ _ _ _ _ us hl => match us, hl with | [_, _], _ => rfl), k1, b_pair_taken_out, rfl, rfl, rfl, k2⟩
theorem ent_29 {K : Fg} {h : Heap} {mg : Str → Option Value} (X : K.In h) (G : h.Ns mainGlobals mg) (c : He.SaysD fa dd K) : ∃ fd, EntOk K mg (clOf K cs) PP tab csts free flds e_29 fd := by
  obtain ⟨fd, F⟩ := c.def_ 29 (d := d_29) rfl
  obtain ⟨k1, k2⟩ := and2 chk_29
  have g : (He.Fa.glo d_29.at_.1).ok K = true := c.fact 29 (f := He.Fa.glo d_29.at_.1) rfl
  exact ⟨fd, F, (fun _ => He.glo_ok X G g), (fun _ _ _ z => nomatch z), (FunD.bindsN F fun _ _ _ _ _ _ us hl => match us, hl with | [_, _], _ => rfl), k1, b_pair_lowered, rfl, rfl, rfl, k2⟩
theorem ent_30 {K : Fg} {h : Heap} {mg : Str → Option Value} (X : K.In h) (G : h.Ns mainGlobals mg) (c : He.SaysD fa dd K) : ∃ fd, EntOk K mg (clOf K cs) PP tab csts free flds e_30 fd := by
  obtain ⟨fd, F⟩ := c.def_ 30 (d := d_30) rfl
  obtain ⟨k1, k2⟩ := and2 chk_30
  have g : (He.Fa.glo d_30.at_.1).ok K = true := c.fact 30 (f := He.Fa.glo d_30.at_.1) rfl
  exact ⟨fd, F, (fun _ => He.glo_ok X G g), (fun _ _ _ z => nomatch z), (FunD.bindsN F fun _ _ _ _ _ _ us hl => match us, hl with | [_, _], _ => rfl), k1, b_by_ranks, rfl, rfl, rfl, k2⟩
theorem ent_31 {K : Fg} {h : Heap} {mg : Str → Option Value} (X : K.In h) (G : h.Ns mainGlobals mg) (c : He.SaysD fa dd K) : ∃ fd, EntOk K mg (clOf K cs) PP tab csts free flds e_31 fd := by
  obtain ⟨fd, F⟩ := c.def_ 31 (d := d_31) rfl
  obtain ⟨k1, k2⟩ := and2 chk_31
  have g : (He.Fa.glo d_31.at_.1).ok K = true := c.fact 31 (f := He.Fa.glo d_31.at_.1) rfl
  exact ⟨fd, F, (fun _ => He.glo_ok X G g), (fun _ _ _ z => nomatch z), (FunD.bindsN F fun _ _ _ _ _ _ us hl => match us, hl with | [_, _, _], _ => rfl), k1, b_count_joined, rfl, rfl, rfl, k2⟩
theorem ent_32 {K : Fg} {h : Heap} {mg : Str → Option Value} (X : K.In h) (G : h.Ns mainGlobals mg) (c : He.SaysD fa dd K) : ∃ fd, EntOk K mg (clOf K cs) PP tab csts free flds e_32 fd := by
  obtain ⟨fd, F⟩ := c.def_ 32 (d := d_32) rfl
  obtain ⟨k1, k2⟩ := and2 chk_32
  have g : (He.Fa.glo d_32.at_.1).ok K = true := c.fact 32 (f := He.Fa.glo d_32.at_.1) rfl
  exact ⟨fd, F, (fun _ => He.glo_ok X G g), (fun _ _ _ z => nomatch z), (FunD.bindsN F fun _ _ _ _ _ _ us hl => match us, hl with | [_, _, _], _ => rfl), k1, b_count_up, rfl, rfl, rfl, k2⟩
theorem ent_33 {K : Fg} {h : Heap} {mg : Str → Option Value} (X : K.In h) (G : h.Ns mainGlobals mg) (c : He.SaysD fa dd K) : ∃ fd, EntOk K mg (clOf K cs) PP tab csts free flds e_33 fd := by
  obtain ⟨fd, F⟩ := c.def_ 33 (d := d_33) rfl
  obtain ⟨k1, k2⟩ := and2 chk_33
  have g : (He.Fa.glo d_33.at_.1).ok K = true := c.fact 33 (f := He.Fa.glo d_33.at_.1) rfl
  exact ⟨fd, F, (fun _ => He.glo_ok X G g), (fun _ _ _ z => nomatch z), (FunD.bindsN F fun _ _ _ _ _ _ us hl => match us, hl with | [_, _, _], _ => rfl), k1, b_change, rfl, rfl, rfl, k2⟩
theorem ent_34 {K : Fg} {h : Heap} {mg : Str → Option Value} (X : K.In h) (G : h.Ns mainGlobals mg) (c : He.SaysD fa dd K) : ∃ fd, EntOk K mg (clOf K cs) PP tab csts free flds e_34 fd := by
  obtain ⟨fd, F⟩ := c.def_ 34 (d := d_34) rfl
  obtain ⟨k1, k2⟩ := and2 chk_34
  have g : (He.Fa.glo d_34.at_.1).ok K = true := c.fact 34 (f := He.Fa.glo d_34.at_.1) rfl
  exact ⟨fd, F, (fun _ => He.glo_ok X G g), (fun _ _ _ z => nomatch z), (FunD.bindsN F fun _ _ _ _ _ _ us hl => match us, hl with | [_, _], _ => rfl), k1, b_count_taken_out, rfl, rfl, rfl, k2⟩
theorem ent_35 {K : Fg} {h : Heap} {mg : Str → Option Value} (X : K.In h) (G : h.Ns mainGlobals mg) (c : He.SaysD fa dd K) : ∃ fd, EntOk K mg (clOf K cs) PP tab csts free flds e_35 fd := by
  obtain ⟨fd, F⟩ := c.def_ 35 (d := d_35) rfl
  obtain ⟨k1, k2⟩ := and2 chk_35
  have g : (He.Fa.glo d_35.at_.1).ok K = true := c.fact 35 (f := He.Fa.glo d_35.at_.1) rfl
  exact ⟨fd, F, (fun _ => He.glo_ok X G g), (fun _ _ _ z => nomatch z), (FunD.bindsN F fun _ _ _ _ _ _ us hl => match us, hl with | [_, _], _ => rfl), k1, b_cut_off, rfl, rfl, rfl, k2⟩
theorem ent_36 {K : Fg} {h : Heap} {mg : Str → Option Value} (X : K.In h) (G : h.Ns mainGlobals mg) (c : He.SaysD fa dd K) : ∃ fd, EntOk K mg (clOf K cs) PP tab csts free flds e_36 fd := by
  obtain ⟨fd, F⟩ := c.def_ 36 (d := d_36) rfl
  obtain ⟨k1, k2⟩ := and2 chk_36
  have g : (He.Fa.glo d_36.at_.1).ok K = true := c.fact 36 (f := He.Fa.glo d_36.at_.1) rfl
  exact ⟨fd, F, (fun _ => He.glo_ok X G g), (fun _ _ _ z => nomatch z), (FunD.bindsN F fun _ _ _ _ _ _ us hl => match us, hl with | [_], _ => rfl), k1, b_cleared, rfl, rfl, rfl, k2⟩
theorem ent_37 {K : Fg} {h : Heap} {mg : Str → Option Value} (X : K.In h) (G : h.Ns mainGlobals mg) (c : He.SaysD fa dd K) : ∃ fd, EntOk K mg (clOf K cs) PP tab csts free flds e_37 fd := by
  obtain ⟨fd, F⟩ := c.def_ 37 (d := d_37) rfl
  obtain ⟨k1, k2⟩ := and2 chk_37
  have g : (He.Fa.glo d_37.at_.1).ok K = true := c.fact 37 (f := He.Fa.glo d_37.at_.1) rfl
  exact ⟨fd, F, (fun _ => He.glo_ok X G g), (fun _ _ _ z => nomatch z), (FunD.bindsN F fun _ _ _ _ _ _ us hl => match us, hl with | [_, _], _ => rfl), k1, b_cut_taken_out, rfl, rfl, rfl, k2⟩
theorem ent_38 {K : Fg} {h : Heap} {mg : Str → Option Value} (X : K.In h) (G : h.Ns mainGlobals mg) (c : He.SaysD fa dd K) : ∃ fd, EntOk K mg (clOf K cs) PP tab csts free flds e_38 fd := by
  obtain ⟨fd, F⟩ := c.def_ 38 (d := d_38) rfl
  obtain ⟨k1, k2⟩ := and2 chk_38
  have g : (He.Fa.glo d_38.at_.1).ok K = true := c.fact 38 (f := He.Fa.glo d_38.at_.1) rfl
  exact ⟨fd, F, (fun _ => He.glo_ok X G g), (fun _ _ _ z => nomatch z), (FunD.bindsN F fun _ _ _ _ _ _ us hl => match us, hl with | [_, _], _ => rfl), k1, b_all_joined, rfl, rfl, rfl, k2⟩
theorem ent_39 {K : Fg} {h : Heap} {mg : Str → Option Value} (X : K.In h) (G : h.Ns mainGlobals mg) (c : He.SaysD fa dd K) : ∃ fd, EntOk K mg (clOf K cs) PP tab csts free flds e_39 fd := by
  obtain ⟨fd, F⟩ := c.def_ 39 (d := d_39) rfl
  obtain ⟨k1, k2⟩ := and2 chk_39
  have g : (He.Fa.glo d_39.at_.1).ok K = true := c.fact 39 (f := He.Fa.glo d_39.at_.1) rfl
  exact ⟨fd, F, (fun _ => He.glo_ok X G g), (fun _ _ _ z => nomatch z), (FunD.bindsN F fun _ _ _ _ _ _ us hl => match us, hl with | [_, _], _ => rfl), k1, b_gone, rfl, rfl, rfl, k2⟩
theorem ent_40 {K : Fg} {h : Heap} {mg : Str → Option Value} (X : K.In h) (G : h.Ns mainGlobals mg) (c : He.SaysD fa dd K) : ∃ fd, EntOk K mg (clOf K cs) PP tab csts free flds e_40 fd := by
  obtain ⟨fd, F⟩ := c.def_ 40 (d := d_40) rfl
  obtain ⟨k1, k2⟩ := and2 chk_40
  have g : (He.Fa.glo d_40.at_.1).ok K = true := c.fact 40 (f := He.Fa.glo d_40.at_.1) rfl
  exact ⟨fd, F, (fun _ => He.glo_ok X G g), (fun _ _ _ z => nomatch z), (FunD.bindsN F fun _ _ _ _ _ _ us hl => match us, hl with | [_, _], _ => rfl), k1, b_moved, rfl, rfl, rfl, k2⟩
theorem ent_41 {K : Fg} {h : Heap} {mg : Str → Option Value} (X : K.In h) (G : h.Ns mainGlobals mg) (c : He.SaysD fa dd K) : ∃ fd, EntOk K mg (clOf K cs) PP tab csts free flds e_41 fd := by
  obtain ⟨fd, F⟩ := c.def_ 41 (d := d_41) rfl
  obtain ⟨k1, k2⟩ := and2 chk_41
  have g : (He.Fa.glo d_41.at_.1).ok K = true := c.fact 41 (f := He.Fa.glo d_41.at_.1) rfl
  exact ⟨fd, F, (fun _ => He.glo_ok X G g), (fun _ _ _ z => nomatch z), (FunD.bindsN F fun _ _ _ _ _ _ us hl => match us, hl with | [_, _, _], _ => rfl), k1, b_joined_deeds, rfl, rfl, rfl, k2⟩
theorem ent_42 {K : Fg} {h : Heap} {mg : Str → Option Value} (X : K.In h) (G : h.Ns mainGlobals mg) (c : He.SaysD fa dd K) : ∃ fd, EntOk K mg (clOf K cs) PP tab csts free flds e_42 fd := by
  obtain ⟨fd, F⟩ := c.def_ 42 (d := d_42) rfl
  obtain ⟨k1, k2⟩ := and2 chk_42
  have g : (He.Fa.glo d_42.at_.1).ok K = true := c.fact 42 (f := He.Fa.glo d_42.at_.1) rfl
  exact ⟨fd, F, (fun _ => He.glo_ok X G g), (fun _ _ _ z => nomatch z), (FunD.bindsN F fun _ _ _ _ _ _ us hl => match us, hl with | [_, _, _], _ => rfl), k1, b_put, rfl, rfl, rfl, k2⟩
theorem ent_43 {K : Fg} {h : Heap} {mg : Str → Option Value} (X : K.In h) (G : h.Ns mainGlobals mg) (c : He.SaysD fa dd K) : ∃ fd, EntOk K mg (clOf K cs) PP tab csts free flds e_43 fd := by
  obtain ⟨fd, F⟩ := c.def_ 43 (d := d_43) rfl
  obtain ⟨k1, k2⟩ := and2 chk_43
  have g : (He.Fa.glo d_43.at_.1).ok K = true := c.fact 43 (f := He.Fa.glo d_43.at_.1) rfl
  exact ⟨fd, F, (fun _ => He.glo_ok X G g), (fun _ _ _ z => nomatch z), (FunD.bindsN F fun _ _ _ _ _ _ us hl => match us, hl with | [_, _], _ => rfl), k1, b_taken, rfl, rfl, rfl, k2⟩
theorem ent_44 {K : Fg} {h : Heap} {mg : Str → Option Value} (X : K.In h) (G : h.Ns mainGlobals mg) (c : He.SaysD fa dd K) : ∃ fd, EntOk K mg (clOf K cs) PP tab csts free flds e_44 fd := by
  obtain ⟨fd, F⟩ := c.def_ 44 (d := d_44) rfl
  obtain ⟨k1, k2⟩ := and2 chk_44
  have g : (He.Fa.glo d_44.at_.1).ok K = true := c.fact 44 (f := He.Fa.glo d_44.at_.1) rfl
  exact ⟨fd, F, (fun _ => He.glo_ok X G g), (fun _ _ _ z => nomatch z), (FunD.bindsN F fun _ _ _ _ _ _ us hl => match us, hl with | [_, _], _ => rfl), k1, b_check_ticket, rfl, rfl, rfl, k2⟩
theorem ent_45 {K : Fg} {h : Heap} {mg : Str → Option Value} (X : K.In h) (G : h.Ns mainGlobals mg) (c : He.SaysD fa dd K) : ∃ fd, EntOk K mg (clOf K cs) PP tab csts free flds e_45 fd := by
  obtain ⟨fd, F⟩ := c.def_ 45 (d := d_45) rfl
  obtain ⟨k1, k2⟩ := and2 chk_45
  have g : (He.Fa.glo d_45.at_.1).ok K = true := c.fact 45 (f := He.Fa.glo d_45.at_.1) rfl
  exact ⟨fd, F, (fun _ => He.glo_ok X G g), (fun _ _ _ z => nomatch z), (FunD.bindsN F fun _ _ _ _ _ _ us hl => match us, hl with | [_, _, _, _], _ => rfl), k1, b_lowered_deeds, rfl, rfl, rfl, k2⟩
theorem ent_46 {K : Fg} {h : Heap} {mg : Str → Option Value} (X : K.In h) (G : h.Ns mainGlobals mg) (c : He.SaysD fa dd K) : ∃ fd, EntOk K mg (clOf K cs) PP tab csts free flds e_46 fd := by
  obtain ⟨fd, F⟩ := c.def_ 46 (d := d_46) rfl
  obtain ⟨k1, k2⟩ := and2 chk_46
  have g : (He.Fa.glo d_46.at_.1).ok K = true := c.fact 46 (f := He.Fa.glo d_46.at_.1) rfl
  exact ⟨fd, F, (fun _ => He.glo_ok X G g), (fun _ _ _ z => nomatch z), (FunD.bindsN F fun _ _ _ _ _ _ us hl => match us, hl with | [_, _, _], _ => rfl), k1, b_dropped, rfl, rfl, rfl, k2⟩
theorem ent_47 {K : Fg} {h : Heap} {mg : Str → Option Value} (X : K.In h) (G : h.Ns mainGlobals mg) (c : He.SaysD fa dd K) : ∃ fd, EntOk K mg (clOf K cs) PP tab csts free flds e_47 fd := by
  obtain ⟨fd, F⟩ := c.def_ 47 (d := d_47) rfl
  obtain ⟨k1, k2⟩ := and2 chk_47
  have g : (He.Fa.glo d_47.at_.1).ok K = true := c.fact 47 (f := He.Fa.glo d_47.at_.1) rfl
  exact ⟨fd, F, (fun _ => He.glo_ok X G g), (fun _ _ _ z => nomatch z), (FunD.bindsN F fun _ _ _ _ _ _ us hl => match us, hl with | [_, _], _ => rfl), k1, b_law_stir, rfl, rfl, rfl, k2⟩
theorem ent_48 {K : Fg} {h : Heap} {mg : Str → Option Value} (X : K.In h) (G : h.Ns mainGlobals mg) (c : He.SaysD fa dd K) : ∃ fd, EntOk K mg (clOf K cs) PP tab csts free flds e_48 fd := by
  obtain ⟨fd, F⟩ := c.def_ 48 (d := d_48) rfl
  obtain ⟨k1, k2⟩ := and2 chk_48
  have g : (He.Fa.glo d_48.at_.1).ok K = true := c.fact 48 (f := He.Fa.glo d_48.at_.1) rfl
  exact ⟨fd, F, (fun _ => He.glo_ok X G g), (fun _ _ _ z => nomatch z), (FunD.bindsN F fun _ _ _ _ _ _ us hl => match us, hl with | [_], _ => rfl), k1, b_law_source, rfl, rfl, rfl, k2⟩
theorem ent_49 {K : Fg} {h : Heap} {mg : Str → Option Value} (X : K.In h) (G : h.Ns mainGlobals mg) (c : He.SaysD fa dd K) : ∃ fd, EntOk K mg (clOf K cs) PP tab csts free flds e_49 fd := by
  obtain ⟨fd, F⟩ := c.def_ 49 (d := d_49) rfl
  obtain ⟨k1, k2⟩ := and2 chk_49
  have g : (He.Fa.glo d_49.at_.1).ok K = true := c.fact 49 (f := He.Fa.glo d_49.at_.1) rfl
  exact ⟨fd, F, (fun _ => He.glo_ok X G g), (fun _ _ _ z => nomatch z), (FunD.bindsN F fun _ _ _ _ _ _ us hl => match us, hl with | [_, _], _ => rfl), k1, b_law_take, rfl, rfl, rfl, k2⟩
theorem ent_50 {K : Fg} {h : Heap} {mg : Str → Option Value} (X : K.In h) (G : h.Ns mainGlobals mg) (c : He.SaysD fa dd K) : ∃ fd, EntOk K mg (clOf K cs) PP tab csts free flds e_50 fd := by
  obtain ⟨fd, F⟩ := c.def_ 50 (d := d_50) rfl
  obtain ⟨k1, k2⟩ := and2 chk_50
  have g : (He.Fa.glo d_50.at_.1).ok K = true := c.fact 50 (f := He.Fa.glo d_50.at_.1) rfl
  exact ⟨fd, F, (fun _ => He.glo_ok X G g), (fun _ _ _ z => nomatch z), (FunD.bindsN F fun _ _ _ _ _ _ us hl => match us, hl with | [_, _], _ => rfl), k1, b_law_one_of, rfl, rfl, rfl, k2⟩
theorem ent_51 {K : Fg} {h : Heap} {mg : Str → Option Value} (X : K.In h) (G : h.Ns mainGlobals mg) (c : He.SaysD fa dd K) : ∃ fd, EntOk K mg (clOf K cs) PP tab csts free flds e_51 fd := by
  obtain ⟨fd, F⟩ := c.def_ 51 (d := d_51) rfl
  obtain ⟨k1, k2⟩ := and2 chk_51
  have g : (He.Fa.glo d_51.at_.1).ok K = true := c.fact 51 (f := He.Fa.glo d_51.at_.1) rfl
  exact ⟨fd, F, (fun _ => He.glo_ok X G g), (fun _ _ _ z => nomatch z), (FunD.bindsN F fun _ _ _ _ _ _ us hl => match us, hl with | [_], _ => rfl), k1, b_law_sort, rfl, rfl, rfl, k2⟩
theorem ent_52 {K : Fg} {h : Heap} {mg : Str → Option Value} (X : K.In h) (G : h.Ns mainGlobals mg) (c : He.SaysD fa dd K) : ∃ fd, EntOk K mg (clOf K cs) PP tab csts free flds e_52 fd := by
  obtain ⟨fd, F⟩ := c.def_ 52 (d := d_52) rfl
  obtain ⟨k1, k2⟩ := and2 chk_52
  have g : (He.Fa.glo d_52.at_.1).ok K = true := c.fact 52 (f := He.Fa.glo d_52.at_.1) rfl
  exact ⟨fd, F, (fun _ => He.glo_ok X G g), (fun _ _ _ z => nomatch z), (FunD.bindsN F fun _ _ _ _ _ _ us hl => match us, hl with | [_, _], _ => rfl), k1, b_law_same, rfl, rfl, rfl, k2⟩
theorem ent_53 {K : Fg} {h : Heap} {mg : Str → Option Value} (X : K.In h) (G : h.Ns mainGlobals mg) (c : He.SaysD fa dd K) : ∃ fd, EntOk K mg (clOf K cs) PP tab csts free flds e_53 fd := by
  obtain ⟨fd, F⟩ := c.def_ 53 (d := d_53) rfl
  obtain ⟨k1, k2⟩ := and2 chk_53
  have g : (He.Fa.glo d_53.at_.1).ok K = true := c.fact 53 (f := He.Fa.glo d_53.at_.1) rfl
  exact ⟨fd, F, (fun _ => He.glo_ok X G g), (fun _ _ _ z => nomatch z), (FunD.bindsN F fun _ _ _ _ _ _ us hl => match us, hl with | [_], _ => rfl), k1, b_law_key, rfl, rfl, rfl, k2⟩
theorem ent_54 {K : Fg} {h : Heap} {mg : Str → Option Value} (X : K.In h) (G : h.Ns mainGlobals mg) (c : He.SaysD fa dd K) : ∃ fd, EntOk K mg (clOf K cs) PP tab csts free flds e_54 fd := by
  obtain ⟨fd, F⟩ := c.def_ 54 (d := d_54) rfl
  obtain ⟨k1, k2⟩ := and2 chk_54
  have g : (He.Fa.glo d_54.at_.1).ok K = true := c.fact 54 (f := He.Fa.glo d_54.at_.1) rfl
  exact ⟨fd, F, (fun _ => He.glo_ok X G g), (fun _ _ _ z => nomatch z), (FunD.bindsN F fun _ _ _ _ _ _ us hl => match us, hl with | [_, _, _], _ => rfl), k1, b_law_tie, rfl, rfl, rfl, k2⟩
theorem ent_55 {K : Fg} {h : Heap} {mg : Str → Option Value} (X : K.In h) (G : h.Ns mainGlobals mg) (c : He.SaysD fa dd K) : ∃ fd, EntOk K mg (clOf K cs) PP tab csts free flds e_55 fd := by
  obtain ⟨fd, F⟩ := c.def_ 55 (d := d_55) rfl
  obtain ⟨k1, k2⟩ := and2 chk_55
  have g : (He.Fa.glo d_55.at_.1).ok K = true := c.fact 55 (f := He.Fa.glo d_55.at_.1) rfl
  exact ⟨fd, F, (fun _ => He.glo_ok X G g), (fun _ _ _ z => nomatch z), (FunD.bindsN F fun _ _ _ _ _ _ us hl => match us, hl with | [_, _], _ => rfl), k1, b_law_trees, rfl, rfl, rfl, k2⟩
theorem ent_56 {K : Fg} {h : Heap} {mg : Str → Option Value} (X : K.In h) (G : h.Ns mainGlobals mg) (c : He.SaysD fa dd K) : ∃ fd, EntOk K mg (clOf K cs) PP tab csts free flds e_56 fd := by
  obtain ⟨fd, F⟩ := c.def_ 56 (d := d_56) rfl
  obtain ⟨k1, k2⟩ := and2 chk_56
  have g : (He.Fa.glo d_56.at_.1).ok K = true := c.fact 56 (f := He.Fa.glo d_56.at_.1) rfl
  exact ⟨fd, F, (fun _ => He.glo_ok X G g), (fun _ _ _ z => nomatch z), (FunD.bindsN F fun _ _ _ _ _ _ us hl => match us, hl with | [_, _], _ => rfl), k1, b_law_kids, rfl, rfl, rfl, k2⟩
theorem ent_57 {K : Fg} {h : Heap} {mg : Str → Option Value} (X : K.In h) (G : h.Ns mainGlobals mg) (c : He.SaysD fa dd K) : ∃ fd, EntOk K mg (clOf K cs) PP tab csts free flds e_57 fd := by
  obtain ⟨fd, F⟩ := c.def_ 57 (d := d_57) rfl
  obtain ⟨k1, k2⟩ := and2 chk_57
  have g : (He.Fa.glo d_57.at_.1).ok K = true := c.fact 57 (f := He.Fa.glo d_57.at_.1) rfl
  exact ⟨fd, F, (fun _ => He.glo_ok X G g), (fun _ _ _ z => nomatch z), (FunD.bindsN F fun _ _ _ _ _ _ us hl => match us, hl with | [_, _], _ => rfl), k1, b_law_items, rfl, rfl, rfl, k2⟩
theorem ent_58 {K : Fg} {h : Heap} {mg : Str → Option Value} (X : K.In h) (G : h.Ns mainGlobals mg) (c : He.SaysD fa dd K) : ∃ fd, EntOk K mg (clOf K cs) PP tab csts free flds e_58 fd := by
  obtain ⟨fd, F⟩ := c.def_ 58 (d := d_58) rfl
  obtain ⟨k1, k2⟩ := and2 chk_58
  have g : (He.Fa.glo d_58.at_.1).ok K = true := c.fact 58 (f := He.Fa.glo d_58.at_.1) rfl
  exact ⟨fd, F, (fun _ => He.glo_ok X G g), (fun _ _ _ z => nomatch z), (FunD.bindsN F fun _ _ _ _ _ _ us hl => match us, hl with | [_, _, _], _ => rfl), k1, b_law_deed, rfl, rfl, rfl, k2⟩
theorem ent_59 {K : Fg} {h : Heap} {mg : Str → Option Value} (X : K.In h) (G : h.Ns mainGlobals mg) (c : He.SaysD fa dd K) : ∃ fd, EntOk K mg (clOf K cs) PP tab csts free flds e_59 fd := by
  obtain ⟨fd, F⟩ := c.def_ 59 (d := d_59) rfl
  obtain ⟨k1, k2⟩ := and2 chk_59
  have g : (He.Fa.glo d_59.at_.1).ok K = true := c.fact 59 (f := He.Fa.glo d_59.at_.1) rfl
  exact ⟨fd, F, (fun _ => He.glo_ok X G g), (fun _ _ _ z => nomatch z), (FunD.bindsN F fun _ _ _ _ _ _ us hl => match us, hl with | [_, _, _], _ => rfl), k1, b_law_pair_join, rfl, rfl, rfl, k2⟩
theorem ent_60 {K : Fg} {h : Heap} {mg : Str → Option Value} (X : K.In h) (G : h.Ns mainGlobals mg) (c : He.SaysD fa dd K) : ∃ fd, EntOk K mg (clOf K cs) PP tab csts free flds e_60 fd := by
  obtain ⟨fd, F⟩ := c.def_ 60 (d := d_60) rfl
  obtain ⟨k1, k2⟩ := and2 chk_60
  have g : (He.Fa.glo d_60.at_.1).ok K = true := c.fact 60 (f := He.Fa.glo d_60.at_.1) rfl
  exact ⟨fd, F, (fun _ => He.glo_ok X G g), (fun _ _ _ z => nomatch z), (FunD.bindsN F fun _ _ _ _ _ _ us hl => match us, hl with | [_, _, _], _ => rfl), k1, b_law_by_program, rfl, rfl, rfl, k2⟩
theorem ent_61 {K : Fg} {h : Heap} {mg : Str → Option Value} (X : K.In h) (G : h.Ns mainGlobals mg) (c : He.SaysD fa dd K) : ∃ fd, EntOk K mg (clOf K cs) PP tab csts free flds e_61 fd := by
  obtain ⟨fd, F⟩ := c.def_ 61 (d := d_61) rfl
  obtain ⟨k1, k2⟩ := and2 chk_61
  have g : (He.Fa.glo d_61.at_.1).ok K = true := c.fact 61 (f := He.Fa.glo d_61.at_.1) rfl
  exact ⟨fd, F, (fun _ => He.glo_ok X G g), (fun _ _ _ z => nomatch z), (FunD.bindsN F fun _ _ _ _ _ _ us hl => match us, hl with | [_, _, _, _], _ => rfl), k1, b_law_grown, rfl, rfl, rfl, k2⟩
theorem ent_62 {K : Fg} {h : Heap} {mg : Str → Option Value} (X : K.In h) (G : h.Ns mainGlobals mg) (c : He.SaysD fa dd K) : ∃ fd, EntOk K mg (clOf K cs) PP tab csts free flds e_62 fd := by
  obtain ⟨fd, F⟩ := c.def_ 62 (d := d_62) rfl
  obtain ⟨k1, k2⟩ := and2 chk_62
  have g : (He.Fa.glo d_62.at_.1).ok K = true := c.fact 62 (f := He.Fa.glo d_62.at_.1) rfl
  exact ⟨fd, F, (fun _ => He.glo_ok X G g), (fun _ _ _ z => nomatch z), (FunD.bindsN F fun _ _ _ _ _ _ us hl => match us, hl with | [_], _ => rfl), k1, b_law, rfl, rfl, rfl, k2⟩
theorem facts {P : Program} {w : World} {K : Fg} {h : Heap} {mg : Str → Option Value} {f : Addr} (X : K.In h) (G : h.Ns mainGlobals mg) (hfa : mg ("law" : Str) = some (.ref f)) (ce : exB csts K = true) (c : He.SaysD fa dd K) :
    ∃ fd : FuncData, (∀ (s : Shared) (v : Value), BindsTo s fd ⟨[v], []⟩ [("script", v)]) ∧ ∀ base : Heap, K.In base → base.Ns mainGlobals mg → FnOk P w K mg base CX0 230 f fd ["script"] (spOf K (clOf K cs) (callN PP 115) f_law 1) := by
  have hT : ∀ e ∈ tab, ∃ fd, EntOk K mg (clOf K cs) PP tab csts free flds e fd := List.forall_mem_cons.mpr ⟨ent_0 X G c, List.forall_mem_cons.mpr ⟨ent_1 X G c, List.forall_mem_cons.mpr ⟨ent_2 X G c, List.forall_mem_cons.mpr ⟨ent_3 X G c, List.forall_mem_cons.mpr ⟨ent_4 X G c, List.forall_mem_cons.mpr ⟨ent_5 X G c, List.forall_mem_cons.mpr ⟨ent_6 X G c, List.forall_mem_cons.mpr ⟨ent_7 X G c, List.forall_mem_cons.mpr ⟨ent_8 X G c, List.forall_mem_cons.mpr ⟨ent_9 X G c, List.forall_mem_cons.mpr ⟨ent_10 X G c, List.forall_mem_cons.mpr ⟨ent_11 X G c, List.forall_mem_cons.mpr ⟨ent_12 X G c, List.forall_mem_cons.mpr ⟨ent_13 X G c, List.forall_mem_cons.mpr ⟨ent_14 X G c, List.forall_mem_cons.mpr ⟨ent_15 X G c, List.forall_mem_cons.mpr ⟨ent_16 X G c, List.forall_mem_cons.mpr ⟨ent_17 X G c, List.forall_mem_cons.mpr ⟨ent_18 X G c, List.forall_mem_cons.mpr ⟨ent_19 X G c, List.forall_mem_cons.mpr ⟨ent_20 X G c, List.forall_mem_cons.mpr ⟨ent_21 X G c, List.forall_mem_cons.mpr ⟨ent_22 X G c, List.forall_mem_cons.mpr ⟨ent_23 X G c, List.forall_mem_cons.mpr ⟨ent_24 X G c, List.forall_mem_cons.mpr ⟨ent_25 X G c, List.forall_mem_cons.mpr ⟨ent_26 X G c, List.forall_mem_cons.mpr ⟨ent_27 X G c, List.forall_mem_cons.mpr ⟨ent_28 X G c, List.forall_mem_cons.mpr ⟨ent_29 X G c, List.forall_mem_cons.mpr ⟨ent_30 X G c, List.forall_mem_cons.mpr ⟨ent_31 X G c, List.forall_mem_cons.mpr ⟨ent_32 X G c, List.forall_mem_cons.mpr ⟨ent_33 X G c, List.forall_mem_cons.mpr ⟨ent_34 X G c, List.forall_mem_cons.mpr ⟨ent_35 X G c, List.forall_mem_cons.mpr ⟨ent_36 X G c, List.forall_mem_cons.mpr ⟨ent_37 X G c, List.forall_mem_cons.mpr ⟨ent_38 X G c, List.forall_mem_cons.mpr ⟨ent_39 X G c, List.forall_mem_cons.mpr ⟨ent_40 X G c, List.forall_mem_cons.mpr ⟨ent_41 X G c, List.forall_mem_cons.mpr ⟨ent_42 X G c, List.forall_mem_cons.mpr ⟨ent_43 X G c, List.forall_mem_cons.mpr ⟨ent_44 X G c, List.forall_mem_cons.mpr ⟨ent_45 X G c, List.forall_mem_cons.mpr ⟨ent_46 X G c, List.forall_mem_cons.mpr ⟨ent_47 X G c, List.forall_mem_cons.mpr ⟨ent_48 X G c, List.forall_mem_cons.mpr ⟨ent_49 X G c, List.forall_mem_cons.mpr ⟨ent_50 X G c, List.forall_mem_cons.mpr ⟨ent_51 X G c, List.forall_mem_cons.mpr ⟨ent_52 X G c, List.forall_mem_cons.mpr ⟨ent_53 X G c, List.forall_mem_cons.mpr ⟨ent_54 X G c, List.forall_mem_cons.mpr ⟨ent_55 X G c, List.forall_mem_cons.mpr ⟨ent_56 X G c, List.forall_mem_cons.mpr ⟨ent_57 X G c, List.forall_mem_cons.mpr ⟨ent_58 X G c, List.forall_mem_cons.mpr ⟨ent_59 X G c, List.forall_mem_cons.mpr ⟨ent_60 X G c, List.forall_mem_cons.mpr ⟨ent_61 X G c, List.forall_mem_cons.mpr ⟨ent_62 X G c, fun _ h => nomatch h⟩⟩⟩⟩⟩⟩⟩⟩⟩⟩⟩⟩⟩⟩⟩⟩⟩⟩⟩⟩⟩⟩⟩⟩⟩⟩⟩⟩⟩⟩⟩⟩⟩⟩⟩⟩⟩⟩⟩⟩⟩⟩⟩⟩⟩⟩⟩⟩⟩⟩⟩⟩⟩⟩⟩⟩⟩⟩⟩⟩⟩⟩⟩
  have gl : Glb K mg (clOf K cs) csts free flds := glb_of X G ce (fun x hx => fa_of c (fa_free hx)) (by decide) (fun f hf => fa_of c (fa_fld hf))
  obtain ⟨fd, ek⟩ := ent_62 X G c
  have e := hfa.symm.trans (ek.mgx rfl)
  cases e
  have b := FunD.bindsA (ps := ["script"]) ek.fn fun _ _ _ _ _ _ us hl => match us, hl with | [_], _ => rfl
  exact ⟨fd, fun s v => b s [v] rfl, fun base _ _ => law_fn gl hT 115 (List.mem_of_getElem? (show tab[62]? = some e_62 from rfl)) ek base⟩
end Mn
open PySem PySem.W PySem.Calls PyProof.Rows
theorem PySem.Challenge.cw_heapwright_k09_pair_put_and_joined_holds : PySem.Challenge.rw_heapwright_k09_pair_put_and_joined.Holds := by
  w_on; o_law
  refine HandSHeadRun.head_any (r := Mn.Hd.RR) (q := view Mn.Hd.RR.prog [70]) (H := Mn.Hd.hk) (ob := Mn.Hd.ob) (M := 4000) (loose := Mn.Hd.loose) (d := HandSHeadRun.topDef Mn.Hd.RR.prog 70) (kwd := []) Mn.Hd.ob_eq
    (by kernel_rfl) (fun s => by kernel_rfl) Mn.Hd.run (by kernel_rfl) (by kernel_rfl) (by kernel_rfl) (by rfl)
    (by first | assumption | decide +kernel) (by decide +kernel) ⟨rfl, rfl, rfl, rfl, rfl, by decide +kernel⟩ ?hw ?hc
  case hw => w_witness2
  case hc =>
    refine L2.walk_ofE (l := PySem.Challenge.rw_heapwright_k09_pair_put_and_joined) (n := 63) (k := 230) (x := "script") (CX := L2.CX0) rfl (by decide) (by kernel_rfl) ⟨rfl, by decide, by decide⟩ ?F (fun _ _ _ _ z => z)
    intro w mg fa h Y G hmg0
    obtain ⟨K, KX, ce, c⟩ := Y
    have hmg : mg ("law" : PySem.Str) = some (.ref fa) := by
      have e : (HandSHeadRun.topDef Mn.Hd.RR.prog 70).name = ("law" : PySem.Str) := by kernel_rfl
      rw [← e]
      exact hmg0
    obtain ⟨fd, hb, hF⟩ := Mn.facts (P := (PySem.Challenge.rw_heapwright_k09_pair_put_and_joined).prog) (w := w) KX G hmg ce c
    exact ⟨K, fd, _, KX, hb, fun H a ns hl hO hS => Mn.law_sp hO hS (Mn.law_ok 0 ns hl) (Mn.callN_mono Mn.PP 115), hF⟩
#print axioms PySem.Challenge.cw_heapwright_k09_pair_put_and_joined_holds

