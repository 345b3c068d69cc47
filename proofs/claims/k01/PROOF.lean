import PyProof.Rows.All
import Wide.All
import OpenK.AllK
import Wide.FinOn
import KE.KStateDown
import Lean
import HandS.Base
import HandS.Call
import HandS.List
import HandS.Ends
import HandS.More
import HandS.Words
import HandS.WordsExc
import HandS.WordsDict
import HandS.IsInst
import HandS.TupAny
import HandS.TupLe
import HandS.Wide
import HandS.Style
import HandS.Defaults
import HandS.Head0
import HandS.Head1
import HandS.Head2
import HandS.HeadEnd
import HandS.HeadHook1
import HandS.HeadHook2
import PySem.Challenge.RW_heapwright_k01_keys_and_items
set_option Elab.async false
set_option linter.all false
set_option maxRecDepth 100000
set_option maxHeartbeats 8000000
set_option exponentiation.threshold 5000
/-! A small language of our own: values, a store, what a piece of it wants (weakest preconditions). -/
namespace Mn
open PySem

/-- a value: tuples and lists that are read alone by value, lists, dicts, instances by a number in the store -/
inductive D where
  | non | bl (b : Bool) | int (i : Int) | str (x : Str) | tup (l : List D) | fl (l : List D) | ref (n : Nat)

abbrev Key := Sum Int Str
/-- an object of the store -/
inductive Ob where
  | lst (l : List D) | dct (l : List (Key × D)) | ins (c : Nat) (fs : List (Str × D))
abbrev Store := List Ob
abbrev Env := List (Option D)
abbrev DK := D → Store → Prop
abbrev XK := Nat → Store → Prop
def noX : XK := fun _ _ => False

/-- the greatest length that is asked for -/
abbrev lim : Nat := 1000000

def D.scal : D → Bool
  | .non => true | .bl _ => true | .int _ => true | .str _ => true | _ => false
def D.sEq : D → D → Bool
  | .non, .non => true
  | .bl a, .bl b => a == b
  | .bl a, .int b => (if a then 1 else 0) == b
  | .int a, .bl b => a == (if b then 1 else 0)
  | .int a, .int b => a == b
  | .str a, .str b => a == b
  | _, _ => false
/-- the items of a list in the store -/
def lst? (S : Store) (n : Nat) : Option (List D) := match S[n]? with
  | some (.lst l) => some l
  | _ => none
/-- the items of a list -/
def lq? (S : Store) : D → Option (List D)
  | .fl l => some l
  | .ref n => lst? S n
  | _ => none
/-- the items of a list or a tuple -/
def seq? (S : Store) : D → Option (List D)
  | .tup l => some l
  | d => lq? S d

/-! data as a whole -/
mutual
inductive Snap (S : Store) : D → PyData → Prop
  | non : Snap S .non .none
  | bl (b : Bool) : Snap S (.bl b) (.bool b)
  | int (i : Int) : Snap S (.int i) (.int i)
  | str (x : Str) : Snap S (.str x) (.str x)
  | tup {ds : List D} {ps : List PyData} : Snaps S ds ps → Snap S (.tup ds) (.tuple ps)
  | lst {d : D} {ds : List D} {ps : List PyData} : lq? S d = some ds → Snaps S ds ps → Snap S d (.list ps)
inductive Snaps (S : Store) : List D → List PyData → Prop
  | nil : Snaps S [] []
  | cons {d : D} {ds : List D} {p : PyData} {ps : List PyData} : Snap S d p → Snaps S ds ps → Snaps S (d :: ds) (p :: ps)
end

def cEq (x y : D) (S : Store) (K : Bool → Prop) : Prop :=
  match x.scal && y.scal with
  | true => K (x.sEq y)
  | false => ∃ p q, Snap S x p ∧ Snap S y q ∧ p.canLay0 = true ∧ q.canLay0 = true ∧ min p.depth q.depth ≤ 150 ∧ K (PyData.eqv p q)
def ints? : List D → Option (List Int)
  | [] => some []
  | .int i :: r => (ints? r).map (i :: ·)
  | _ => none
def cIs (x y : D) (K : Bool → Prop) : Prop := match y with
  | .non => K (match x with | .non => true | _ => false)
  | .bl b => (match x with | .bl a => K (decide (a = b)) | _ => False)
  | _ => False
def cIn (x y : D) (S : Store) (K : Bool → Prop) : Prop := match seq? S y with
  | some l => x.scal = true ∧ l.all D.scal = true ∧ K (l.any fun z => z.sEq x)
  | none => False
def cLe (x y : D) (K : Bool → Prop) : Prop := match x, y with
  | .int i, .int j => K (decide (i ≤ j))
  | _, _ => False
def cGt (x y : D) (K : Bool → Prop) : Prop := match x, y with
  | .int i, .int j => K (decide (j < i))
  | _, _ => False
def cGe (x y : D) (K : Bool → Prop) : Prop := match x, y with
  | .int i, .int j => K (decide (j ≤ i))
  | _, _ => False
def cLt (x y : D) (K : Bool → Prop) : Prop := match x, y with
  | .int i, .int j => K (decide (i < j))
  | .tup a, .tup b => (match ints? a, ints? b with | some i, some j => K (HT.lexLt i j) | _, _ => False)
  | _, _ => False
def cmpB (op : CmpOp) (x y : D) (S : Store) (K : Bool → Prop) : Prop := match op with
  | .Eq => cEq x y S K
  | .NotEq => cEq x y S fun b => K (!b)
  | .Lt => cLt x y K
  | .LtE => cLe x y K
  | .Gt => cGt x y K
  | .GtE => cGe x y K
  | .Is => cIs x y K
  | .IsNot => cIs x y fun b => K (!b)
  | .In => cIn x y S K
  | .NotIn => cIn x y S fun b => K (!b)

/-! operators -/
def bAdd (x y : D) (S : Store) (Q : DK) : Prop := match x, y with
  | .int i, .int j => Q (.int (i + j)) S
  | .int i, .bl j => Q (.int (i + if j then 1 else 0)) S
  | .tup a, .tup b => a.length + b.length ≤ lim ∧ Q (.tup (a ++ b)) S
  | a, b => (match lq? S a, lq? S b with
    | some l, some m => l.length + m.length ≤ lim ∧ Q (.ref S.length) (S ++ [.lst (l ++ m)])
    | _, _ => False)
/-- a number of at most some thousand bits -/
def Sm (i : Int) : Prop := i.natAbs < 2 ^ 4000
def bMul (x y : D) (S : Store) (Q : DK) : Prop := match x, y with
  | .int i, .int j => Sm i ∧ Sm j ∧ Q (.int (i * j)) S
  | .ref a, .int k => (match lst? S a with
    | some l => 0 ≤ k ∧ k ≤ 1000000 ∧ l.length * k.toNat ≤ lim ∧ Q (.ref S.length) (S ++ [.lst (List.replicate k.toNat l).flatten])
    | _ => False)
  | _, _ => False
def bSub (x y : D) (S : Store) (Q : DK) : Prop := match x, y with
  | .int i, .int j => Q (.int (i - j)) S
  | _, _ => False
def bDiv (x y : D) (S : Store) (Q : DK) : Prop := match x, y with
  | .int i, .int j => 0 < j ∧ Sm j ∧ Q (.int (i / j)) S
  | _, _ => False
def bMod (x y : D) (S : Store) (Q : DK) : Prop := match x, y with
  | .int i, .int j => 0 < j ∧ Q (.int (i % j)) S
  | _, _ => False
def bPow (x y : D) (S : Store) (Q : DK) : Prop := match x, y with
  | .int i, .int j => 0 ≤ j ∧ j ≤ 1000 ∧ Sm i ∧ Q (.int (i ^ j.toNat)) S
  | _, _ => False
def bShl (x y : D) (S : Store) (Q : DK) : Prop := match x, y with
  | .int i, .int j => L2.CPow i j ∧ Q (.int (i * 2 ^ j.toNat)) S
  | _, _ => False
def bShr (x y : D) (S : Store) (Q : DK) : Prop := match x, y with
  | .int i, .int j => 0 ≤ j ∧ Q (.int (i / 2 ^ j.toNat)) S
  | _, _ => False
def bop (op : Operator) (x y : D) (S : Store) (Q : DK) : Prop := match op with
  | .Add => bAdd x y S Q
  | .Sub => bSub x y S Q
  | .Mult => bMul x y S Q
  | .FloorDiv => bDiv x y S Q
  | .Mod => bMod x y S Q
  | .Pow => bPow x y S Q
  | .LShift => bShl x y S Q
  | .RShift => bShr x y S Q
  | _ => False

/-! types that isinstance asks for -/
inductive Ty where
  | int | bool | str | tuple | list | tl
  deriving DecidableEq
def isL (S : Store) : D → Option Bool
  | .fl _ => some true
  | .ref n => (lst? S n).map fun _ => true
  | _ => some false
def isTy (S : Store) (x : D) : Ty → Option Bool
  | .int => (match x with | .int _ => some true | .bl _ => some true | x => (isL S x).map fun _ => false)
  | .bool => (match x with | .bl _ => some true | x => (isL S x).map fun _ => false)
  | .str => (match x with | .str _ => some true | x => (isL S x).map fun _ => false)
  | .tuple => (match x with | .tup _ => some true | x => (isL S x).map fun _ => false)
  | .list => isL S x
  | .tl => (match x with | .tup _ => some true | x => isL S x)

def imax (i j : Int) : Int := if j > i then j else i
def imin (i j : Int) : Int := if j < i then j else i
/-- built-ins -/
inductive Bt where
  | len | isi (t : Ty) | max2 | min2
  deriving DecidableEq
def len? (S : Store) : D → Option Nat
  | .tup l => some l.length
  | .str x => some x.length
  | .fl l => some l.length
  | .ref n => (match S[n]? with
    | some (.lst l) => some l.length
    | some (.dct l) => some l.length
    | _ => none)
  | _ => none
def bLen (ds : List D) (S : Store) (Q : DK) : Prop := match ds with
  | [x] => (match len? S x with | some n => n ≤ lim ∧ Q (.int n) S | none => False)
  | _ => False
def bIsi (t : Ty) (ds : List D) (S : Store) (Q : DK) : Prop := match ds with
  | [x] => (match isTy S x t with | some k => Q (.bl k) S | none => False)
  | _ => False
def b2I (f : Int → Int → Int) (ds : List D) (S : Store) (Q : DK) : Prop := match ds with
  | [.int i, .int j] => Q (.int (f i j)) S
  | _ => False
def bt (b : Bt) (ds : List D) (S : Store) (Q : DK) : Prop := match b with
  | .len => bLen ds S Q
  | .isi t => bIsi t ds S Q
  | .max2 => b2I imax ds S Q
  | .min2 => b2I imin ds S Q

def keyOf : D → Option Key
  | .int i => some (.inl i)
  | .str x => some (.inr x)
  | _ => none
def dGet (k : Key) : List (Key × D) → Option D
  | [] => none
  | (c, v) :: r => if c = k then some v else dGet k r
def ixD (x i : D) (S : Store) (Q : DK) : Prop := match seq? S x with
  | some l => (match i with
    | .int i => (match L2.atI l i with | some v => Q v S | none => False)
    | _ => False)
  | none => False
/-- the part of a list from lo up to hi -/
def cut (l : List D) (lo hi : Option Int) : List D := (l.drop (HT.sIx l.length 0 lo)).take (HT.sIx l.length l.length hi - HT.sIx l.length 0 lo)
def slD (x : D) (a b : Option Int) (S : Store) (Q : DK) : Prop := match x with
  | .tup l => Q (.tup (cut l a b)) S
  | x => (match lq? S x with | some l => Q (.ref S.length) (S ++ [.lst (cut l a b)]) | none => False)

/-! the language -/
mutual
inductive Tg where
  | nm (i : Nat) | tp (ts : Tgs)
inductive Tgs where
  | nil | cons (t : Tg) (ts : Tgs)
end
mutual
inductive E where
  | bad | no
  | v (i : Nat) | cst (d : D)
  | and (a b : E) | or (a b : E) | not (a : E) | ite (c a b : E)
  | bin (op : Operator) (a b : E) | neg (a : E)
  | cmp (op : CmpOp) (a b : E) | chn (op op2 : CmpOp) (a b c : E)
  | ix (a i : E) | sl (a lo hi : E)
  | tup (es : Es) | lst (es : Es)
  | call (f : Nat) (es : Es)
  | blt (b : Bt) (es : Es)
inductive Es where
  | nil | cons (e : E) (es : Es)
end
/-- a part of a slice: left out, or an int -/
def optP : E → D → Option (Option Int)
  | .no, _ => some none
  | _, .int i => some (some i)
  | _, _ => none
/-- what a for walks -/
inductive It where
  | seq (e : E)
mutual
inductive C where
  | bad
  | set (i : Nat) (e : E)
  | setIx (o i e : E)
  | ret (e : E)
  | ex (e : E)
  | cond (c : E) (a b : Cs)
  | whl (c : E) (b : Cs)
  | for_ (t : Tg) (it : It) (b : Cs)
inductive Cs where
  | nil | cons (c : C) (cs : Cs)
end
/-- a call's meaning: which def, its arguments -/
abbrev Sem := Nat → List D → Store → DK → XK → Prop

mutual
def Tg.bind : Tg → D → Env → Option Env
  | .nm i, d, ρ => some (ρ.set i (some d))
  | .tp ts, d, ρ => (match d with | .tup l => ts.bind l ρ | _ => none)
def Tgs.bind : Tgs → List D → Env → Option Env
  | .nil, l, ρ => (match l with | [] => some ρ | _ => none)
  | .cons t ts, l, ρ => (match l with
    | d :: r => (match t.bind d ρ with | some ρ1 => ts.bind r ρ1 | none => none)
    | [] => none)
end

mutual
def wpE (F : Sem) : E → Env → Store → DK → XK → Prop
  | .bad, _, _, _, _ => False
  | .no, _, S, Q, _ => Q .non S
  | .v i, ρ, S, Q, _ => (match ρ[i]? with | some (some d) => Q d S | _ => False)
  | .cst d, _, S, Q, _ => Q d S
  | .and a b, ρ, S, Q, X => wpE F a ρ S (fun x S1 => match x with | .bl true => wpE F b ρ S1 Q X | .bl false => Q (.bl false) S1 | _ => False) X
  | .or a b, ρ, S, Q, X => wpE F a ρ S (fun x S1 => match x with | .bl true => Q (.bl true) S1 | .bl false => wpE F b ρ S1 Q X | _ => False) X
  | .not a, ρ, S, Q, X => wpE F a ρ S (fun x S1 => match x with | .bl b => Q (.bl (!b)) S1 | _ => False) X
  | .ite c a b, ρ, S, Q, X => wpE F c ρ S (fun x S1 => match x with | .bl true => wpE F a ρ S1 Q X | .bl false => wpE F b ρ S1 Q X | _ => False) X
  | .bin op a b, ρ, S, Q, X => wpE F a ρ S (fun x S1 => wpE F b ρ S1 (fun y S2 => bop op x y S2 Q) X) X
  | .neg a, ρ, S, Q, X => wpE F a ρ S (fun x S1 => match x with | .int i => Q (.int (-i)) S1 | _ => False) X
  | .cmp op a b, ρ, S, Q, X => wpE F a ρ S (fun x S1 => wpE F b ρ S1 (fun y S2 => cmpB op x y S2 fun k => Q (.bl k) S2) X) X
  | .chn op op2 a b c, ρ, S, Q, X => wpE F a ρ S (fun x S1 => wpE F b ρ S1 (fun y S2 => cmpB op x y S2 fun k => match k with
      | true => wpE F c ρ S2 (fun z S3 => cmpB op2 y z S3 fun k2 => Q (.bl k2) S3) X
      | false => Q (.bl false) S2) X) X
  | .ix a i, ρ, S, Q, X => wpE F a ρ S (fun x S1 => wpE F i ρ S1 (fun y S2 => ixD x y S2 Q) X) X
  | .sl a lo hi, ρ, S, Q, X => wpE F a ρ S (fun x S1 => wpE F lo ρ S1 (fun y S2 => match optP lo y with
      | some l => wpE F hi ρ S2 (fun z S3 => match optP hi z with
        | some h => slD x l h S3 Q
        | none => False) X
      | none => False) X) X
  | .tup es, ρ, S, Q, X => wpEs F es ρ S (fun ds S1 => ds.length ≤ lim ∧ Q (.tup ds) S1) X
  | .lst es, ρ, S, Q, X => wpEs F es ρ S (fun ds S1 => ds.length ≤ lim ∧ Q (.ref S1.length) (S1 ++ [.lst ds])) X
  | .call f es, ρ, S, Q, X => wpEs F es ρ S (fun ds S1 => F f ds S1 Q X) X
  | .blt b es, ρ, S, Q, X => wpEs F es ρ S (fun ds S1 => bt b ds S1 Q) X
def wpEs (F : Sem) : Es → Env → Store → (List D → Store → Prop) → XK → Prop
  | .nil, _, S, Q, _ => Q [] S
  | .cons e es, ρ, S, Q, X => wpE F e ρ S (fun x S1 => wpEs F es ρ S1 (fun xs S2 => Q (x :: xs) S2) X) X
end
def Es.len : Es → Nat
  | .nil => 0
  | .cons _ es => es.len + 1
/-- what is wanted behind a statement -/
structure Ends where
  nx : Env → Store → Prop
  rt : DK
  bk : Env → Store → Prop
  ct : Env → Store → Prop
  xc : XK
/-- what a for walks: its items, and what must hold of the store while it is walked -/
def wpIt (F : Sem) : It → Env → Store → (List D → (Store → Prop) → Store → Prop) → XK → Prop
  | .seq e, ρ, S, R, X => wpE F e ρ S (fun x S1 => match x with
    | .tup l => R l (fun _ => True) S1
    | .fl l => R l (fun _ => True) S1
    | .ref n => (match lst? S1 n with
      | some l => R l (fun S => lst? S n = some l) S1
      | none => False)
    | _ => False) X
def wpFor (t : Tg) (G : Store → Prop) (b : Ends → Env → Store → Prop) (K : Ends) : List D → Env → Store → Prop
  | [], ρ, S => G S ∧ K.nx ρ S
  | d :: r, ρ, S => G S ∧ (match t.bind d ρ with
    | some ρ1 => b { K with nx := wpFor t G b K r, ct := wpFor t G b K r, bk := K.nx } ρ1 S
    | none => False)
def wpWh (c : Env → Store → DK → Prop) (b : Ends → Env → Store → Prop) (K : Ends) : Nat → Env → Store → Prop
  | 0, _, _ => False
  | n + 1, ρ, S => c ρ S fun x S1 => match x with
    | .bl true => b { K with nx := wpWh c b K n, ct := wpWh c b K n, bk := K.nx } ρ S1
    | .bl false => K.nx ρ S1
    | _ => False
def setIx (o i v : D) (S : Store) (Q : Store → Prop) : Prop := match o with
  | .ref n => (match S[n]? with
    | some (.lst l) => (match i with
      | .int i => (match L2.ixN l.length i with
        | some j => Q (S.set n (.lst (l.set j v)))
        | none => False)
      | _ => False)
    | _ => False)
  | _ => False
mutual
def wpC (F : Sem) : C → Ends → Env → Store → Prop
  | .bad, _, _, _ => False
  | .set i e, K, ρ, S => wpE F e ρ S (fun x S1 => K.nx (ρ.set i (some x)) S1) K.xc
  | .setIx o i e, K, ρ, S => wpE F e ρ S (fun x S1 => wpE F o ρ S1 (fun y S2 => wpE F i ρ S2 (fun z S3 => setIx y z x S3 fun S4 => K.nx ρ S4) K.xc) K.xc) K.xc
  | .ret e, K, ρ, S => wpE F e ρ S K.rt K.xc
  | .ex e, K, ρ, S => wpE F e ρ S (fun _ S1 => K.nx ρ S1) K.xc
  | .cond c a b, K, ρ, S => wpE F c ρ S (fun x S1 => match x with | .bl true => wpCs F a K ρ S1 | .bl false => wpCs F b K ρ S1 | _ => False) K.xc
  | .whl c b, K, ρ, S => ∃ n, wpWh (fun ρ S Q => wpE F c ρ S Q K.xc) (wpCs F b) K n ρ S
  | .for_ t it b, K, ρ, S => wpIt F it ρ S (fun l G S1 => wpFor t G (wpCs F b) K l ρ S1) K.xc
def wpCs (F : Sem) : Cs → Ends → Env → Store → Prop
  | .nil, K, ρ, S => K.nx ρ S
  | .cons c cs, K, ρ, S => wpC F c { K with nx := fun ρ1 S1 => wpCs F cs K ρ1 S1 } ρ S
end
/-- a def: how many parameters, how many names, its body -/
structure Fn where
  np : Nat
  n : Nat
  body : Cs
abbrev Prog := Nat → Option Fn
def rtEnds (Q : DK) (X : XK) : Ends := ⟨fun _ S => Q .non S, Q, fun _ _ => False, fun _ _ => False, X⟩
def startE (fn : Fn) (ds : List D) : Env := ds.map some ++ List.replicate (fn.n - ds.length) none
def callN (P : Prog) : Nat → Sem
  | 0, _, _, _, _, _ => False
  | n + 1, f, ds, S, Q, X => match P f with
    | some fn => ds.length = fn.np ∧ wpCs (callN P n) fn.body (rtEnds Q X) (startE fn ds) S
    | none => False
end Mn

namespace Mn
open PySem
def DK.le (Q Q' : DK) : Prop := ∀ d S, Q d S → Q' d S
def SemMono (F : Sem) : Prop := ∀ f ds S (Q Q' : DK) (X X' : XK), (∀ d S, Q d S → Q' d S) → (∀ c S, X c S → X' c S) → F f ds S Q X → F f ds S Q' X'
theorem cEq_mono {x y : D} {S : Store} {K K' : Bool → Prop} (h : ∀ b, K b → K' b) (q : cEq x y S K) : cEq x y S K' := by
  unfold cEq at *
  split at q
  · exact h _ q
  · obtain ⟨p, r, a, b, c, d, e, k⟩ := q
    exact ⟨p, r, a, b, c, d, e, h _ k⟩
theorem cIs_mono {x y : D} {K K' : Bool → Prop} (h : ∀ b, K b → K' b) (q : cIs x y K) : cIs x y K' := by
  unfold cIs at *
  split at q
  · exact h _ q
  · split at q
    · exact h _ q
    · exact q
  · exact q
theorem cIn_mono {x y : D} {S : Store} {K K' : Bool → Prop} (h : ∀ b, K b → K' b) (q : cIn x y S K) : cIn x y S K' := by
  unfold cIn at *
  split at q
  · exact ⟨q.1, q.2.1, h _ q.2.2⟩
  · exact q
theorem cLe_mono {x y : D} {K K' : Bool → Prop} (h : ∀ b, K b → K' b) (q : cLe x y K) : cLe x y K' := by
  unfold cLe at *
  split at q
  · exact h _ q
  · exact q
theorem cGt_mono {x y : D} {K K' : Bool → Prop} (h : ∀ b, K b → K' b) (q : cGt x y K) : cGt x y K' := by
  unfold cGt at *
  split at q
  · exact h _ q
  · exact q
theorem cGe_mono {x y : D} {K K' : Bool → Prop} (h : ∀ b, K b → K' b) (q : cGe x y K) : cGe x y K' := by
  unfold cGe at *
  split at q
  · exact h _ q
  · exact q
theorem cLt_mono {x y : D} {K K' : Bool → Prop} (h : ∀ b, K b → K' b) (q : cLt x y K) : cLt x y K' := by
  unfold cLt at *
  split at q
  · exact h _ q
  · split at q
    · exact h _ q
    · exact q
  · exact q
theorem cmpB_mono {op : CmpOp} {x y : D} {S : Store} {K K' : Bool → Prop} (h : ∀ b, K b → K' b) (q : cmpB op x y S K) : cmpB op x y S K' := by
  cases op
  · exact cEq_mono h q
  · exact cEq_mono (fun b => h (!b)) q
  · exact cLt_mono h q
  · exact cLe_mono h q
  · exact cGt_mono h q
  · exact cGe_mono h q
  · exact cIs_mono h q
  · exact cIs_mono (fun b => h (!b)) q
  · exact cIn_mono h q
  · exact cIn_mono (fun b => h (!b)) q
theorem bSub_mono {x y : D} {S : Store} {Q Q' : DK} (h : ∀ d S, Q d S → Q' d S) (q : bSub x y S Q) : bSub x y S Q' := by
  unfold bSub at *
  split at q
  · exact h _ _ q
  · exact q
theorem bDiv_mono {x y : D} {S : Store} {Q Q' : DK} (h : ∀ d S, Q d S → Q' d S) (q : bDiv x y S Q) : bDiv x y S Q' := by
  unfold bDiv at *
  split at q
  · exact ⟨q.1, q.2.1, h _ _ q.2.2⟩
  · exact q
theorem bMod_mono {x y : D} {S : Store} {Q Q' : DK} (h : ∀ d S, Q d S → Q' d S) (q : bMod x y S Q) : bMod x y S Q' := by
  unfold bMod at *
  split at q
  · exact ⟨q.1, h _ _ q.2⟩
  · exact q
theorem bPow_mono {x y : D} {S : Store} {Q Q' : DK} (h : ∀ d S, Q d S → Q' d S) (q : bPow x y S Q) : bPow x y S Q' := by
  unfold bPow at *
  split at q
  · exact ⟨q.1, q.2.1, q.2.2.1, h _ _ q.2.2.2⟩
  · exact q
theorem bShl_mono {x y : D} {S : Store} {Q Q' : DK} (h : ∀ d S, Q d S → Q' d S) (q : bShl x y S Q) : bShl x y S Q' := by
  unfold bShl at *
  split at q
  · exact ⟨q.1, h _ _ q.2⟩
  · exact q
theorem bShr_mono {x y : D} {S : Store} {Q Q' : DK} (h : ∀ d S, Q d S → Q' d S) (q : bShr x y S Q) : bShr x y S Q' := by
  unfold bShr at *
  split at q
  · exact ⟨q.1, h _ _ q.2⟩
  · exact q
theorem bop_mono {op : Operator} {x y : D} {S : Store} {Q Q' : DK} (h : ∀ d S, Q d S → Q' d S) (q : bop op x y S Q) : bop op x y S Q' := by
  cases op with
  | Add =>
    show bAdd x y S Q'
    replace q : bAdd x y S Q := q
    unfold bAdd at *
    split at q
    · exact h _ _ q
    · exact h _ _ q
    · exact ⟨q.1, h _ _ q.2⟩
    · split at q
      · exact ⟨q.1, h _ _ q.2⟩
      · exact q
  | Mult =>
    show bMul x y S Q'
    replace q : bMul x y S Q := q
    unfold bMul at *
    split at q
    · exact ⟨q.1, q.2.1, h _ _ q.2.2⟩
    · split at q
      · exact ⟨q.1, q.2.1, q.2.2.1, h _ _ q.2.2.2⟩
      · exact q
    · exact q
  | Sub => exact bSub_mono h q
  | FloorDiv => exact bDiv_mono h q
  | Mod => exact bMod_mono h q
  | Pow => exact bPow_mono h q
  | LShift => exact bShl_mono h q
  | RShift => exact bShr_mono h q
  | _ => exact q
theorem bt_mono {b : Bt} {ds : List D} {S : Store} {Q Q' : DK} (h : ∀ d S, Q d S → Q' d S) (q : bt b ds S Q) : bt b ds S Q' := by
  cases b with
  | len =>
    replace q : bLen ds S Q := q
    show bLen ds S Q'
    unfold bLen at *
    (repeat' split at q) <;> first | exact ⟨q.1, h _ _ q.2⟩ | exact q
  | isi t =>
    replace q : bIsi t ds S Q := q
    show bIsi t ds S Q'
    unfold bIsi at *
    (repeat' split at q) <;> first | exact h _ _ q | exact q
  | max2 =>
    replace q : b2I imax ds S Q := q
    show b2I imax ds S Q'
    unfold b2I at *
    (repeat' split at q) <;> first | exact h _ _ q | exact q
  | min2 =>
    replace q : b2I imin ds S Q := q
    show b2I imin ds S Q'
    unfold b2I at *
    (repeat' split at q) <;> first | exact h _ _ q | exact q
theorem ixD_mono {x i : D} {S : Store} {Q Q' : DK} (h : ∀ d S, Q d S → Q' d S) (q : ixD x i S Q) : ixD x i S Q' := by
  unfold ixD at *
  (repeat' split at q) <;> first | exact h _ _ q | exact q
theorem slD_mono {x : D} {lo hi : Option Int} {S : Store} {Q Q' : DK} (h : ∀ d S, Q d S → Q' d S) (q : slD x lo hi S Q) : slD x lo hi S Q' := by
  unfold slD at *
  (repeat' split at q) <;> first | exact h _ _ q | exact q
theorem setIx_mono {o i v : D} {S : Store} {Q Q' : Store → Prop} (h : ∀ S, Q S → Q' S) (q : setIx o i v S Q) : setIx o i v S Q' := by
  unfold setIx at *
  (repeat' split at q) <;> first | exact h _ q | exact q
section
variable {F : Sem} (hF : SemMono F)
include hF
mutual
theorem wpE_mono : ∀ (e : E) {ρ : Env} {S : Store} {Q Q' : DK} {X X' : XK}, (∀ d S, Q d S → Q' d S) → (∀ c S, X c S → X' c S) → wpE F e ρ S Q X → wpE F e ρ S Q' X'
  | .bad, _, _, _, _, _, _, _, _, q => q
  | .no, _, _, _, _, _, _, h, _, q => h _ _ q
  | .v i, ρ, _, _, _, _, _, h, _, q => by
    unfold wpE at *
    split at q
    · exact h _ _ q
    · exact q
  | .cst d, _, _, _, _, _, _, h, _, q => h _ _ q
  | .and a b, _, _, _, _, _, _, h, hx, q => wpE_mono a (fun x S1 q1 => by
      split at q1
      · exact wpE_mono b h hx q1
      · exact h _ _ q1
      · exact q1) hx q
  | .or a b, _, _, _, _, _, _, h, hx, q => wpE_mono a (fun x S1 q1 => by
      split at q1
      · exact h _ _ q1
      · exact wpE_mono b h hx q1
      · exact q1) hx q
  | .not a, _, _, _, _, _, _, h, hx, q => wpE_mono a (fun x S1 q1 => by
      split at q1
      · exact h _ _ q1
      · exact q1) hx q
  | .ite c a b, _, _, _, _, _, _, h, hx, q => wpE_mono c (fun x S1 q1 => by
      split at q1
      · exact wpE_mono a h hx q1
      · exact wpE_mono b h hx q1
      · exact q1) hx q
  | .bin op a b, _, _, _, _, _, _, h, hx, q => wpE_mono a (fun x S1 q1 => wpE_mono b (fun y S2 q2 => bop_mono h q2) hx q1) hx q
  | .neg a, _, _, _, _, _, _, h, hx, q => wpE_mono a (fun x S1 q1 => by
      split at q1
      · exact h _ _ q1
      · exact q1) hx q
  | .cmp op a b, _, _, _, _, _, _, h, hx, q => wpE_mono a (fun x S1 q1 => wpE_mono b (fun y S2 q2 => cmpB_mono (fun k => h _ _) q2) hx q1) hx q
  | .chn op op2 a b c, _, _, _, _, _, _, h, hx, q => wpE_mono a (fun x S1 q1 => wpE_mono b (fun y S2 q2 => cmpB_mono (fun k q3 => by
      cases k with
      | true => exact wpE_mono c (fun z S3 q4 => cmpB_mono (fun k => h _ _) q4) hx q3
      | false => exact h _ _ q3) q2) hx q1) hx q
  | .ix a i, _, _, _, _, _, _, h, hx, q => wpE_mono a (fun x S1 q1 => wpE_mono i (fun y S2 q2 => ixD_mono h q2) hx q1) hx q
  | .sl a lo hi, _, _, _, _, _, _, h, hx, q => wpE_mono a (fun x S1 q1 => wpE_mono lo (fun y S2 q2 => by
      split at q2
      · refine wpE_mono hi (fun z S3 q3 => ?_) hx q2
        split at q3
        · exact slD_mono h q3
        · exact q3
      · exact q2) hx q1) hx q
  | .tup es, _, _, _, _, _, _, h, hx, q => wpEs_mono es (fun xs S1 q1 => ⟨q1.1, h _ _ q1.2⟩) hx q
  | .lst es, _, _, _, _, _, _, h, hx, q => wpEs_mono es (fun xs S1 q1 => ⟨q1.1, h _ _ q1.2⟩) hx q
  | .call f es, _, _, _, _, _, _, h, hx, q => wpEs_mono es (fun xs S1 q1 => hF _ _ _ _ _ _ _ h hx q1) hx q
  | .blt b es, _, _, _, _, _, _, h, hx, q => wpEs_mono es (fun xs S1 q1 => bt_mono h q1) hx q
theorem wpEs_mono : ∀ (es : Es) {ρ : Env} {S : Store} {Q Q' : List D → Store → Prop} {X X' : XK}, (∀ d S, Q d S → Q' d S) → (∀ c S, X c S → X' c S) → wpEs F es ρ S Q X → wpEs F es ρ S Q' X'
  | .nil, _, _, _, _, _, _, h, _, q => h _ _ q
  | .cons e es, _, _, _, _, _, _, h, hx, q => wpE_mono e (fun x S1 q1 => wpEs_mono es (fun xs S2 q2 => h _ _ q2) hx q1) hx q
end
theorem wpIt_mono : ∀ (it : It) {ρ : Env} {S : Store} {R R' : List D → (Store → Prop) → Store → Prop} {X X' : XK}, (∀ l G S, R l G S → R' l G S) → (∀ c S, X c S → X' c S) → wpIt F it ρ S R X → wpIt F it ρ S R' X'
  | .seq e, _, _, _, _, _, _, h, hx, q => wpE_mono hF e (fun x S1 q1 => by
      (repeat' split at q1) <;> first | exact h _ _ _ q1 | exact q1) hx q
end
theorem wpEs_len {F : Sem} (hF : SemMono F) : ∀ (es : Es) {ρ : Env} {S : Store} {Q : List D → Store → Prop} {X : XK}, wpEs F es ρ S Q X → wpEs F es ρ S (fun ds S => Q ds S ∧ ds.length = es.len) X
  | .nil, _, _, _, _, q => ⟨q, rfl⟩
  | .cons e es, _, _, _, _, q => wpE_mono hF e (fun x S1 q1 => wpEs_mono hF es (fun xs S2 q2 => ⟨q2.1, by rw [List.length_cons, q2.2]; rfl⟩) (fun _ _ z => z) (wpEs_len hF es q1)) (fun _ _ z => z) q
structure Ends.le (K K' : Ends) : Prop where
  nx : ∀ ρ S, K.nx ρ S → K'.nx ρ S
  rt : ∀ d S, K.rt d S → K'.rt d S
  bk : ∀ ρ S, K.bk ρ S → K'.bk ρ S
  ct : ∀ ρ S, K.ct ρ S → K'.ct ρ S
  xc : ∀ c S, K.xc c S → K'.xc c S
def BMono (b : Ends → Env → Store → Prop) : Prop := ∀ K K' ρ S, Ends.le K K' → b K ρ S → b K' ρ S
theorem wpFor_mono {t : Tg} {G : Store → Prop} {b : Ends → Env → Store → Prop} {K K' : Ends} (hb : BMono b) (h : Ends.le K K') : ∀ (l : List D) {ρ : Env} {S : Store}, wpFor t G b K l ρ S → wpFor t G b K' l ρ S
  | [], _, _, q => ⟨q.1, h.nx _ _ q.2⟩
  | d :: r, ρ, S, q => by
    refine ⟨q.1, ?_⟩
    have q2 := q.2
    split at q2
    · exact hb { K with nx := wpFor t G b K r, ct := wpFor t G b K r, bk := K.nx } _ _ _ ⟨fun _ _ => wpFor_mono hb h r, h.rt, h.nx, fun _ _ => wpFor_mono hb h r, h.xc⟩ q2
    · exact q2
theorem wpWh_mono {c c' : Env → Store → DK → Prop} {b : Ends → Env → Store → Prop} {K K' : Ends} (hc : ∀ ρ S (Q Q' : DK), (∀ d S, Q d S → Q' d S) → c ρ S Q → c' ρ S Q') (hb : BMono b) (h : Ends.le K K') : ∀ (n : Nat) {ρ : Env} {S : Store}, wpWh c b K n ρ S → wpWh c' b K' n ρ S
  | 0, _, _, q => q
  | n + 1, ρ, S, q => hc _ _ _ _ (fun x S1 q1 => by
      split at q1
      · exact hb { K with nx := wpWh c b K n, ct := wpWh c b K n, bk := K.nx } _ _ _ ⟨fun _ _ => wpWh_mono hc hb h n, h.rt, h.nx, fun _ _ => wpWh_mono hc hb h n, h.xc⟩ q1
      · exact h.nx _ _ q1
      · exact q1) q
section
variable {F : Sem} (hF : SemMono F)
include hF
mutual
theorem wpC_mono : ∀ (c : C) {K K' : Ends} {ρ : Env} {S : Store}, Ends.le K K' → wpC F c K ρ S → wpC F c K' ρ S
  | .bad, _, _, _, _, _, q => q
  | .set i e, _, _, _, _, h, q => wpE_mono hF e (fun x S1 => h.nx _ _) h.xc q
  | .setIx o i e, _, _, _, _, h, q => wpE_mono hF e (fun x S1 q1 => wpE_mono hF o (fun y S2 q2 => wpE_mono hF i (fun z S3 q3 => setIx_mono (fun S => h.nx _ _) q3) h.xc q2) h.xc q1) h.xc q
  | .ret e, _, _, _, _, h, q => wpE_mono hF e h.rt h.xc q
  | .ex e, _, _, _, _, h, q => wpE_mono hF e (fun x S1 => h.nx _ _) h.xc q
  | .cond c a b, _, _, _, _, h, q => wpE_mono hF c (fun x S1 q1 => by
      split at q1
      · exact wpCs_mono a h q1
      · exact wpCs_mono b h q1
      · exact q1) h.xc q
  | .whl c b, _, _, _, _, h, q => by
    obtain ⟨n, q⟩ := q
    have hb : BMono (wpCs F b) := fun K K' ρ S hk qq => wpCs_mono b hk qq
    refine ⟨n, wpWh_mono ?_ hb h n q⟩
    exact fun ρ S Q Q' hq qq => wpE_mono hF c hq h.xc qq
  | .for_ t it b, K, K', ρ, S, h, q => by
    have hb : BMono (wpCs F b) := fun K K' ρ S hk qq => wpCs_mono b hk qq
    exact wpIt_mono hF it (R := fun l G S1 => wpFor t G (wpCs F b) K l ρ S1) (fun l G S1 q1 => wpFor_mono hb h l q1) h.xc q
theorem wpCs_mono : ∀ (cs : Cs) {K K' : Ends} {ρ : Env} {S : Store}, Ends.le K K' → wpCs F cs K ρ S → wpCs F cs K' ρ S
  | .nil, _, _, _, _, h, q => h.nx _ _ q
  | .cons c cs, K, K', _, _, h, q => wpC_mono c (K := { K with nx := fun ρ1 S1 => wpCs F cs K ρ1 S1 }) ⟨fun ρ S q1 => wpCs_mono cs h q1, h.rt, h.bk, h.ct, h.xc⟩ q
end
end
theorem callN_mono (P : Prog) : ∀ n, SemMono (callN P n)
  | 0 => fun _ _ _ _ _ _ _ _ _ q => q
  | n + 1 => fun f ds S Q Q' X X' h hx q => by
    unfold callN at *
    split at q
    · exact ⟨q.1, wpCs_mono (callN_mono P n) _ (K := rtEnds Q X) ⟨fun _ S => h _ S, h, fun _ _ z => z, fun _ _ z => z, hx⟩ q.2⟩
    · exact q
end Mn

/-! How a store stands in the layer's heap. -/
namespace Mn
open PySem PySem.Spec PyProof.Rows L2
abbrev Fg := PySem.W.Frag
/-- a list that is read alone: locked, or of the written part -/
def PersL (K : Fg) (H : Hp) (a : Addr) (vs : List V) : Prop := (∃ o, H a = some (.frz o (.lst vs))) ∨
  ∃ (o : Obj) (its : Array Value) (n : Nat), K.lookup a = some o ∧ o.cls = .type "list" ∧ o.dict = none ∧ o.data = .seq its n ∧ its.size ≤ sizeLine ∧ Vals vs its.toList
theorem PersL.sq {K : Fg} {H : Hp} {a : Addr} {vs : List V} (h : PersL K H a vs) : SqL K H a vs := by
  rcases h with ⟨o, h⟩ | h
  · exact .inl (.inr ⟨o, h⟩)
  · exact .inr h
mutual
inductive RD (K : Fg) (m : List Addr) (H : Hp) : D → V → Prop
  | non : RD K m H .non .non
  | bl (b : Bool) : RD K m H (.bl b) (.bl b)
  | int (i : Int) : RD K m H (.int i) (.int i)
  | str (x : Str) : RD K m H (.str x) (.str x)
  | tup {a : Addr} {vs : List V} {ds : List D} : SqT K H a vs → RDs K m H ds vs → RD K m H (.tup ds) (.ref a)
  | fl {a : Addr} {vs : List V} {ds : List D} : PersL K H a vs → RDs K m H ds vs → RD K m H (.fl ds) (.ref a)
  | ref {n : Nat} {a : Addr} : m[n]? = some a → RD K m H (.ref n) (.ref a)
inductive RDs (K : Fg) (m : List Addr) (H : Hp) : List D → List V → Prop
  | nil : RDs K m H [] []
  | cons {d : D} {ds : List D} {v : V} {vs : List V} : RD K m H d v → RDs K m H ds vs → RDs K m H (d :: ds) (v :: vs)
end
/-- tuples and what is locked stay, the places of the store stay -/
structure Le (m : List Addr) (H : Hp) (m' : List Addr) (H' : Hp) : Prop where
  pre : ∀ (n : Nat) (a : Addr), m[n]? = some a → m'[n]? = some a
  tup : ∀ (a : Addr) (vs : List V), H a = some (.tup vs) → H' a = some (.tup vs)
  frz : ∀ (a : Addr) (o : Obj) (u : HO), H a = some (.frz o u) → H' a = some (.frz o u)
theorem Le.refl (m : List Addr) (H : Hp) : Le m H m H := ⟨fun _ _ h => h, fun _ _ h => h, fun _ _ _ h => h⟩
theorem Le.trans {m m1 m2 : List Addr} {H H1 H2 : Hp} (x : Le m H m1 H1) (y : Le m1 H1 m2 H2) : Le m H m2 H2 :=
  ⟨fun n a h => y.pre n a (x.pre n a h), fun a vs h => y.tup a vs (x.tup a vs h), fun a o u h => y.frz a o u (x.frz a o u h)⟩
section
variable {K : Fg} {m m' : List Addr} {H H' : Hp}
theorem Le.sqT (x : Le m H m' H') {a : Addr} {vs : List V} (h : SqT K H a vs) : SqT K H' a vs := by
  rcases h with (h | ⟨o, h⟩) | h
  · exact .inl (.inl (x.tup _ _ h))
  · exact .inl (.inr ⟨o, x.frz _ _ _ h⟩)
  · exact .inr h
theorem Le.pers (x : Le m H m' H') {a : Addr} {vs : List V} (h : PersL K H a vs) : PersL K H' a vs := by
  rcases h with ⟨o, h⟩ | h
  · exact .inl ⟨o, x.frz _ _ _ h⟩
  · exact .inr h
mutual
theorem RD.mono (x : Le m H m' H') : ∀ {d : D} {v : V}, RD K m H d v → RD K m' H' d v
  | _, _, .non => .non
  | _, _, .bl b => .bl b
  | _, _, .int i => .int i
  | _, _, .str s => .str s
  | _, _, .tup h r => .tup (x.sqT h) (RDs.mono x r)
  | _, _, .fl h r => .fl (x.pers h) (RDs.mono x r)
  | _, _, .ref h => .ref (x.pre _ _ h)
theorem RDs.mono (x : Le m H m' H') : ∀ {ds : List D} {vs : List V}, RDs K m H ds vs → RDs K m' H' ds vs
  | _, _, .nil => .nil
  | _, _, .cons r rs => .cons (RD.mono x r) (RDs.mono x rs)
end
theorem RDs.length : ∀ {ds : List D} {vs : List V}, RDs K m H ds vs → ds.length = vs.length
  | _, _, .nil => rfl
  | _, _, .cons _ rs => by rw [List.length_cons, List.length_cons, RDs.length rs]
theorem RDs.get : ∀ {ds : List D} {vs : List V} {i : Nat} {d : D}, RDs K m H ds vs → ds[i]? = some d → ∃ v, vs[i]? = some v ∧ RD K m H d v
  | _, _, _, _, .nil, e => by simp at e
  | _, _, 0, _, .cons r _, e => by simp at e; subst e; exact ⟨_, rfl, r⟩
  | _, _, i + 1, d, .cons _ t, e => by
    obtain ⟨u, h1, h2⟩ := RDs.get (i := i) (d := d) t (by simpa using e)
    exact ⟨u, by simpa using h1, h2⟩
theorem RDs.getV : ∀ {ds : List D} {vs : List V} {i : Nat} {v : V}, RDs K m H ds vs → vs[i]? = some v → ∃ d, ds[i]? = some d ∧ RD K m H d v
  | _, _, _, _, .nil, e => by simp at e
  | _, _, 0, _, .cons r _, e => by simp at e; subst e; exact ⟨_, rfl, r⟩
  | _, _, i + 1, d, .cons _ t, e => by
    obtain ⟨u, h1, h2⟩ := RDs.getV (i := i) (v := d) t (by simpa using e)
    exact ⟨u, by simpa using h1, h2⟩
theorem RDs.append : ∀ {ds es : List D} {vs us : List V}, RDs K m H ds vs → RDs K m H es us → RDs K m H (ds ++ es) (vs ++ us)
  | _, _, _, _, .nil, s => s
  | _, _, _, _, .cons r t, s => .cons r (RDs.append t s)
theorem RDs.take : ∀ {ds : List D} {vs : List V} (n : Nat), RDs K m H ds vs → RDs K m H (ds.take n) (vs.take n)
  | _, _, 0, _ => .nil
  | _, _, _ + 1, .nil => .nil
  | _, _, n + 1, .cons r t => .cons r (RDs.take n t)
theorem RDs.drop : ∀ {ds : List D} {vs : List V} (n : Nat), RDs K m H ds vs → RDs K m H (ds.drop n) (vs.drop n)
  | _, _, 0, r => r
  | _, _, _ + 1, .nil => .nil
  | _, _, n + 1, .cons _ t => RDs.drop n t
theorem RDs.set {d : D} {v : V} (r : RD K m H d v) : ∀ {ds : List D} {vs : List V} (i : Nat), RDs K m H ds vs → RDs K m H (ds.set i d) (vs.set i v)
  | _, _, _, .nil => .nil
  | _, _, 0, .cons _ t => .cons r t
  | _, _, i + 1, .cons q t => .cons q (RDs.set r i t)
theorem RDs.eraseIdx : ∀ {ds : List D} {vs : List V} (i : Nat), RDs K m H ds vs → RDs K m H (ds.eraseIdx i) (vs.eraseIdx i)
  | _, _, _, .nil => .nil
  | _, _, 0, .cons _ t => t
  | _, _, i + 1, .cons q t => .cons q (RDs.eraseIdx i t)
theorem RDs.reverse {ds : List D} {vs : List V} (r : RDs K m H ds vs) : RDs K m H ds.reverse vs.reverse := by
  induction ds generalizing vs with
  | nil => cases r; exact .nil
  | cons d ds ih =>
    cases r with
    | cons q t =>
      rw [List.reverse_cons, List.reverse_cons]
      exact (ih t).append (.cons q .nil)
theorem RDs.replicate {ds : List D} {vs : List V} (r : RDs K m H ds vs) : ∀ n : Nat, RDs K m H (List.replicate n ds).flatten (List.replicate n vs).flatten
  | 0 => .nil
  | n + 1 => by
    rw [List.replicate_succ, List.replicate_succ, List.flatten_cons, List.flatten_cons]
    exact r.append (RDs.replicate r n)
end
/-- an object of the store stands at a -/
def RO (K : Fg) (cl : Nat → Option Addr) (m : List Addr) (H : Hp) (a : Addr) : Ob → Prop
  | .lst l => ∃ vs, H a = some (.lst vs) ∧ RDs K m H l vs
  | .dct l => ∃ kvs, H a = some (.dK kvs) ∧ l.map (·.1) = kvs.map (·.1) ∧ RDs K m H (l.map (·.2)) (kvs.map (·.2))
  | .ins c fs => ∃ C dx gs, cl c = some C ∧ H a = some (.ins C dx gs) ∧ H dx = some (.own a) ∧ fs.map (·.1) = gs.map (·.1) ∧ RDs K m H (fs.map (·.2)) (gs.map (·.2))
structure RS (K : Fg) (cl : Nat → Option Addr) (m : List Addr) (H : Hp) (S : Store) : Prop where
  len : m.length = S.length
  nd : ∀ (i j : Nat) (a : Addr), m[i]? = some a → m[j]? = some a → i = j
  at_ : ∀ (n : Nat) (a : Addr) (o : Ob), m[n]? = some a → S[n]? = some o → RO K cl m H a o
section
variable {K : Fg} {cl : Nat → Option Addr} {m m' : List Addr} {H H' : Hp} {S : Store} {a : Addr} {o : Ob}
theorem RO.there (r : RO K cl m H a o) : ∃ u, H a = some u := by
  cases o with
  | lst l => obtain ⟨vs, h, _⟩ := r; exact ⟨_, h⟩
  | dct l => obtain ⟨vs, h, _⟩ := r; exact ⟨_, h⟩
  | ins c fs => obtain ⟨C, dx, gs, _, h, _⟩ := r; exact ⟨_, h⟩
theorem RO.keep (r : RO K cl m H a o) (x : Le m H m' H') (k : ∀ u, H a = some u → H' a = some u) (kd : ∀ d, H d = some (.own a) → H' d = some (.own a)) : RO K cl m' H' a o := by
  cases o with
  | lst l => obtain ⟨vs, h, q⟩ := r; exact ⟨vs, k _ h, q.mono x⟩
  | dct l => obtain ⟨vs, h, e, q⟩ := r; exact ⟨vs, k _ h, e, q.mono x⟩
  | ins c fs => obtain ⟨C, dx, gs, hc, h, hd, e, q⟩ := r; exact ⟨C, dx, gs, hc, k _ h, kd _ hd, e, q.mono x⟩
theorem RS.get (R : RS K cl m H S) {n : Nat} {o : Ob} (e : S[n]? = some o) : ∃ a, m[n]? = some a ∧ RO K cl m H a o := by
  have h1 : n < S.length := (List.getElem?_eq_some_iff.mp e).1
  have h2 : n < m.length := by rw [R.len]; exact h1
  exact ⟨m[n], List.getElem?_eq_getElem h2, R.at_ _ _ _ (List.getElem?_eq_getElem h2) e⟩
theorem RS.obj (R : RS K cl m H S) {n : Nat} {a : Addr} (e : m[n]? = some a) : ∃ o, S[n]? = some o ∧ RO K cl m H a o := by
  have h1 : n < m.length := (List.getElem?_eq_some_iff.mp e).1
  have h2 : n < S.length := by rw [← R.len]; exact h1
  exact ⟨S[n], List.getElem?_eq_getElem h2, R.at_ _ _ _ e (List.getElem?_eq_getElem h2)⟩
theorem RS.there (R : RS K cl m H S) {n : Nat} {a : Addr} (e : m[n]? = some a) : ∃ u, H a = some u := let ⟨_, _, r⟩ := R.obj e; r.there
/-- a new thing that is not of the store -/
theorem le_new {p : Addr} {u : HO} (np : H p = none) : Le m H m (upd H p u) :=
  ⟨fun _ _ h => h, fun b vs h => by rw [upd_ne (ne_of_none h np)]; exact h, fun b o v h => by rw [upd_ne (ne_of_none h np)]; exact h⟩
theorem RS.new (R : RS K cl m H S) {p : Addr} {u : HO} (np : H p = none) : RS K cl m (upd H p u) S :=
  ⟨R.len, R.nd, fun n a o e1 e2 => (R.at_ n a o e1 e2).keep (le_new np) (fun v h => by rw [upd_ne (ne_of_none h np)]; exact h) fun d h => by rw [upd_ne (ne_of_none h np)]; exact h⟩
/-- a new list of the store -/
theorem le_push {p : Addr} {u : HO} (np : H p = none) : Le m H (m ++ [p]) (upd H p u) :=
  ⟨fun n a h => by rw [List.getElem?_append_left (List.getElem?_eq_some_iff.mp h).1]; exact h, (le_new (m := m) np).tup, (le_new (m := m) np).frz⟩
theorem RS.push (R : RS K cl m H S) {p : Addr} {u : HO} {o : Ob} (np : H p = none) (r : RO K cl (m ++ [p]) (upd H p u) p o) : RS K cl (m ++ [p]) (upd H p u) (S ++ [o]) where
  len := by rw [List.length_append, List.length_append, R.len]; rfl
  nd := fun i j a hi hj => by
    have key : ∀ k, (m ++ [p])[k]? = some a → (m[k]? = some a ∧ a ≠ p) ∨ (k = m.length ∧ a = p) := fun k hk => by
      by_cases hl : k < m.length
      · rw [List.getElem?_append_left hl] at hk
        obtain ⟨v, hv⟩ := R.there hk
        exact .inl ⟨hk, ne_of_none hv np⟩
      · rw [List.getElem?_append_right (by omega)] at hk
        have h0 : k - m.length = 0 := by
          have := (List.getElem?_eq_some_iff.mp hk).1
          simp at this
          omega
        rw [h0] at hk
        simp at hk
        exact .inr ⟨by omega, hk.symm⟩
    rcases key i hi with ⟨h1, h2⟩ | ⟨h1, h2⟩ <;> rcases key j hj with ⟨h3, h4⟩ | ⟨h3, h4⟩
    · exact R.nd i j a h1 h3
    · exact absurd h4 h2
    · exact absurd h2 h4
    · omega
  at_ := fun n a o' e1 e2 => by
    by_cases hl : n < m.length
    · rw [List.getElem?_append_left hl] at e1
      rw [List.getElem?_append_left (by rw [← R.len]; exact hl)] at e2
      exact (R.at_ n a o' e1 e2).keep (le_push np) (fun v h => by rw [upd_ne (ne_of_none h np)]; exact h) fun d h => by rw [upd_ne (ne_of_none h np)]; exact h
    · have hn : n = m.length := by
        have := (List.getElem?_eq_some_iff.mp e1).1
        simp at this
        omega
      subst hn
      rw [List.getElem?_append_right (by omega)] at e1
      rw [List.getElem?_append_right (by rw [R.len]; omega)] at e2
      have l := R.len
      simp [l] at e1 e2
      subst e1; subst e2
      exact r
theorem RS.pushL (R : RS K cl m H S) {p : Addr} {ds : List D} {vs : List V} (np : H p = none) (r : RDs K m H ds vs) : RS K cl (m ++ [p]) (upd H p (.lst vs)) (S ++ [.lst ds]) :=
  R.push np ⟨vs, upd_same, r.mono (le_push np)⟩
theorem RS.last (R : RS K cl m H S) (p : Addr) : (m ++ [p])[S.length]? = some p := by
  rw [← R.len]
  simp
/-- an object of the store is written -/
theorem le_set {n : Nat} {u : HO} (R : RS K cl m H S) (e : m[n]? = some a) : Le m H m (upd H a u) := by
  obtain ⟨o, _, r⟩ := R.obj e
  have nt : ∀ vs, H a ≠ some (.tup vs) := fun vs h => by
    cases o with
    | lst l => obtain ⟨_, q, _⟩ := r; rw [q] at h; cases h
    | dct l => obtain ⟨_, q, _⟩ := r; rw [q] at h; cases h
    | ins c fs => obtain ⟨_, _, _, _, q, _⟩ := r; rw [q] at h; cases h
  have nf : ∀ o u, H a ≠ some (.frz o u) := fun o' u h => by
    cases o with
    | lst l => obtain ⟨_, q, _⟩ := r; rw [q] at h; cases h
    | dct l => obtain ⟨_, q, _⟩ := r; rw [q] at h; cases h
    | ins c fs => obtain ⟨_, _, _, _, q, _⟩ := r; rw [q] at h; cases h
  refine ⟨fun _ _ h => h, fun b vs h => ?_, fun b o v h => ?_⟩
  · have hb : b ≠ a := fun z => nt vs (by rw [← z]; exact h)
    rw [upd_ne hb]; exact h
  · have hb : b ≠ a := fun z => nf o v (by rw [← z]; exact h)
    rw [upd_ne hb]; exact h
theorem RS.set (R : RS K cl m H S) {n : Nat} {u : HO} {o : Ob} (e : m[n]? = some a) (r : RO K cl m (upd H a u) a o) : RS K cl m (upd H a u) (S.set n o) where
  len := by rw [List.length_set]; exact R.len
  nd := R.nd
  at_ := fun k b o' e1 e2 => by
    by_cases hk : k = n
    · subst hk
      rw [e] at e1; cases e1
      have hl : k < S.length := by rw [← R.len]; exact (List.getElem?_eq_some_iff.mp e).1
      rw [List.getElem?_set_self hl] at e2
      cases e2
      exact r
    · rw [List.getElem?_set_ne (Ne.symm hk)] at e2
      have hb : b ≠ a := fun z => hk (R.nd k n a (z ▸ e1) e)
      obtain ⟨o0, _, r0⟩ := R.obj e
      have no : ∀ d x, H d = some (.own x) → d ≠ a := fun d x h z => by
        subst z
        cases o0 with
        | lst l => obtain ⟨_, q, _⟩ := r0; rw [q] at h; cases h
        | dct l => obtain ⟨_, q, _⟩ := r0; rw [q] at h; cases h
        | ins c fs => obtain ⟨_, _, _, _, q, _⟩ := r0; rw [q] at h; cases h
      exact (R.at_ k b o' e1 e2).keep (le_set R e) (fun v h => by rw [upd_ne hb]; exact h) fun d h => by rw [upd_ne (no d _ h)]; exact h
end
/-- the names -/
structure RE (K : Fg) (m : List Addr) (H : Hp) (ρ : Env) (σ : L2.St) : Prop where
  len : ρ.length = σ.length
  at_ : ∀ (i : Nat) (d : D), ρ[i]? = some (some d) → ∃ v, σ[i]? = some (some v) ∧ RD K m H d v
section
variable {K : Fg} {m m' : List Addr} {H H' : Hp} {ρ : Env} {σ : L2.St}
theorem RE.mono (r : RE K m H ρ σ) (x : Le m H m' H') : RE K m' H' ρ σ := ⟨r.len, fun i d e => let ⟨v, h, q⟩ := r.at_ i d e; ⟨v, h, q.mono x⟩⟩
theorem RE.set (r : RE K m H ρ σ) {d : D} {v : V} (q : RD K m H d v) (i : Nat) : RE K m H (ρ.set i (some d)) (σ.set i (some v)) := by
  refine ⟨by rw [List.length_set, List.length_set]; exact r.len, fun j c e => ?_⟩
  by_cases h : j = i
  · subst h
    by_cases hl : j < ρ.length
    · rw [List.getElem?_set_self hl] at e
      cases e
      exact ⟨v, by rw [List.getElem?_set_self (by rw [← r.len]; exact hl)], q⟩
    · rw [List.getElem?_eq_none (by rw [List.length_set]; omega)] at e
      cases e
  · rw [List.getElem?_set_ne (Ne.symm h)] at e ⊢
    exact r.at_ j c e
end
end Mn

/-! The operators: what the small language asks gives what the layer asks. -/
namespace Mn
open PySem PySem.Spec PyProof.Rows L2
abbrev Cl := Nat → Option Addr
/-- a wish of the small language as one of the layer -/
def up (K : Fg) (cl : Cl) (m : List Addr) (H : Hp) (Q : VK) : DK := fun d S' => ∀ (m' : List Addr) (H' : Hp) (v : V), Le m H m' H' → RS K cl m' H' S' → RD K m' H' d v → Q v H'
def upB (K : Fg) (cl : Cl) (m : List Addr) (H : Hp) (S : Store) (Q : VK) : Bool → Prop := fun b => Q (.bl b) H
theorem lim_le : lim ≤ sizeLine := by rw [sizeLine_eq]; decide
section
variable {X : Cx} {cl : Cl}
/-- two lists, any -/
def rCatS (K : Fg) : R2 := fun x y H Q => ∃ l b xs zs, x = .ref l ∧ y = .ref b ∧ SqL K H l xs ∧ SqL K H b zs ∧ xs.length + zs.length ≤ sizeLine ∧ ∀ p, H p = none → Q (.ref p) (upd H p (.lst (xs ++ zs)))
theorem op_catS : OpR X (binaryOp .Add) (rCatS X.K) := by
  intro pins s σ H x y v u Q I rx ry h
  obtain ⟨l, b, xs, zs, rfl, rfl, hA, hB, hz, q⟩ := h
  cases rx
  cases ry
  obtain ⟨ia, ra, ⟨⟨c1, dd1, dt1, sl1⟩, n1, g1, k1, j1, f1⟩, _⟩ := I.list hA
  obtain ⟨ib, rb, ⟨⟨c2, dd2, dt2, sl2⟩, n2, g2, k2, j2, f2⟩, _⟩ := I.list hB
  dsimp only at k1 j1 f1 k2 j2 f2
  subst k1 j1 f1 k2 j2 f2
  have e1 := ra.length
  have e2 := rb.length
  refine concat_meets ⟨_, g1, rfl⟩ ⟨_, g2, rfl⟩ noFill_list_add seq_list_add PySem.F.slot_list_add PySem.F.entry_list_add
    (PySem.F.args_list_add_2 _ _) (list_addW l b ia.toArray ib.toArray n1 n2 _ _ sl1 sl2 (by simp; omega)) ⟨g1, g2, ?_⟩
  have ea : ia.toArray ++ ib.toArray = (ia ++ ib).toArray := by simp
  rw [ea]
  exact ⟨.ref _, _, I.lnew (t' := s.toks) (ra.append rb) (by rw [List.length_append]; omega), rfl, q _ I.fresh⟩
theorem RDs.nil_iff {K : Fg} {m : List Addr} {H : Hp} {ds : List D} {vs : List V} (r : RDs K m H ds vs) : vs = [] ↔ ds = [] := by
  cases r <;> simp
/-- the items of a list, as they stand -/
theorem RD.lq {K : Fg} {m : List Addr} {H : Hp} {S : Store} {d : D} {v : V} {l : List D} (R : RS K cl m H S) (r : RD K m H d v) (e : lq? S d = some l) : ∃ a vs, v = .ref a ∧ SqL K H a vs ∧ RDs K m H l vs := by
  cases r with
  | fl h q => cases e; exact ⟨_, _, rfl, h.sq, q⟩
  | @ref n a h =>
    have e2 : lst? S n = some l := e
    unfold lst? at e2
    split at e2
    · rename_i l' g
      cases e2
      obtain ⟨vs, h1, h2⟩ := R.at_ n a _ h g
      exact ⟨a, vs, rfl, SqL.of h1, h2⟩
    · cases e2
  | _ => cases e
theorem lst_some {S : Store} {n : Nat} {l : List D} (e : lst? S n = some l) : S[n]? = some (.lst l) := by
  unfold lst? at e
  split at e
  · rename_i l' g
    cases e
    exact g
  · cases e
theorem RD.seq {K : Fg} {m : List Addr} {H : Hp} {S : Store} {d : D} {v : V} {l : List D} (R : RS K cl m H S) (r : RD K m H d v) (e : seq? S d = some l) : ∃ a vs, v = .ref a ∧ (SqL K H a vs ∨ SqT K H a vs) ∧ RDs K m H l vs := by
  cases r with
  | tup h q => cases e; exact ⟨_, _, rfl, .inr h, q⟩
  | fl h q => cases e; exact ⟨_, _, rfl, .inl h.sq, q⟩
  | ref h =>
    obtain ⟨a, vs, h1, h2, h3⟩ := RD.lq R (.ref h) e
    exact ⟨a, vs, h1, .inl h2, h3⟩
  | _ => cases e
theorem sm_log {i : Int} (h : Sm i) : i.natAbs.log2 < 4000 := PySem.Flt.log2_lt_of (by decide) h
theorem sm_bits {i : Int} (h : Sm i) : Builtin.Int.intBits i ≤ 4000 := by
  have := sm_log h
  unfold Builtin.Int.intBits
  split <;> omega
def rB (K : Fg) (cl : Cl) (op : Operator) : R2 := fun x y H Q => ∃ m S dx dy, RS K cl m H S ∧ RD K m H dx x ∧ RD K m H dy y ∧ bop op dx dy S (up K cl m H Q)
theorem bSub_use {dx dy : D} {S : Store} {Q : DK} (h : bSub dx dy S Q) : ∃ i j, dx = .int i ∧ dy = .int j ∧ True ∧ Q (.int (i - j)) S := by
  unfold bSub at h
  split at h
  · exact ⟨_, _, rfl, rfl, trivial, h⟩
  · exact h.elim
theorem bDiv_use {dx dy : D} {S : Store} {Q : DK} (h : bDiv dx dy S Q) : ∃ i j, dx = .int i ∧ dy = .int j ∧ (0 < j ∧ Sm j) ∧ Q (.int (i / j)) S := by
  unfold bDiv at h
  split at h
  · exact ⟨_, _, rfl, rfl, ⟨h.1, h.2.1⟩, h.2.2⟩
  · exact h.elim
theorem bMod_use {dx dy : D} {S : Store} {Q : DK} (h : bMod dx dy S Q) : ∃ i j, dx = .int i ∧ dy = .int j ∧ 0 < j ∧ Q (.int (i % j)) S := by
  unfold bMod at h
  split at h
  · exact ⟨_, _, rfl, rfl, h.1, h.2⟩
  · exact h.elim
theorem bPow_use {dx dy : D} {S : Store} {Q : DK} (h : bPow dx dy S Q) : ∃ i j, dx = .int i ∧ dy = .int j ∧ (0 ≤ j ∧ j ≤ 1000 ∧ Sm i) ∧ Q (.int (i ^ j.toNat)) S := by
  unfold bPow at h
  split at h
  · exact ⟨_, _, rfl, rfl, ⟨h.1, h.2.1, h.2.2.1⟩, h.2.2.2⟩
  · exact h.elim
theorem bShl_use {dx dy : D} {S : Store} {Q : DK} (h : bShl dx dy S Q) : ∃ i j, dx = .int i ∧ dy = .int j ∧ L2.CPow i j ∧ Q (.int (i * 2 ^ j.toNat)) S := by
  unfold bShl at h
  split at h
  · exact ⟨_, _, rfl, rfl, h.1, h.2⟩
  · exact h.elim
theorem bShr_use {dx dy : D} {S : Store} {Q : DK} (h : bShr dx dy S Q) : ∃ i j, dx = .int i ∧ dy = .int j ∧ 0 ≤ j ∧ Q (.int (i / 2 ^ j.toNat)) S := by
  unfold bShr at h
  split at h
  · exact ⟨_, _, rfl, rfl, h.1, h.2⟩
  · exact h.elim
theorem op_pow2 : OpR X (binaryOp .Pow) (rI (fun i j => 0 ≤ j ∧ j ≤ 1000 ∧ Sm i) fun i j => .int (i ^ j.toNat)) := opI fun i j _ _ _ _ _ hc q => by
  refine pow_int hc.1 ?_ q
  have h1 := sm_bits hc.2.2
  have h2 := hc.2.1
  have h3 := hc.1
  have : ((Builtin.Int.intBits i : Nat) : Int) * j ≤ 4000 * 1000 := Int.mul_le_mul (by omega) h2 h3 (by decide)
  omega
theorem up_here {K : Fg} {m : List Addr} {H : Hp} {Q : VK} {d : D} {v : V} {S : Store} (h : up K cl m H Q d S) (R : RS K cl m H S) (r : RD K m H d v) : Q v H := h m H v (Le.refl m H) R r
theorem op_snd (op : Operator) : OpR X (binaryOp op) (rB X.K cl op) := by
  intro pins s σ H x y v u Q I rx ry ⟨m, S, dx, dy, R, r1, r2, h⟩
  cases op with
  | Add =>
    replace h : bAdd dx dy S (up X.K cl m H Q) := h
    unfold bAdd at h
    split at h
    · cases r1; cases r2
      exact op_add pins s σ H _ _ v u Q I rx ry ⟨_, _, rfl, rfl, up_here h R (.int _)⟩
    · cases r1; cases r2
      refine op_add_ib pins s σ H _ _ v u Q I rx ry ⟨_, _, rfl, rfl, ?_⟩
      exact up_here h R (.int _)
    · cases r1 with
      | tup h1 q1 =>
        cases r2 with
        | tup h2 q2 =>
          have hl := lim_le
          have e1 := q1.length
          have e2 := q2.length
          have := h.1
          refine op_catA pins s σ H _ _ v u Q I rx ry ⟨_, _, _, _, rfl, rfl, h1, h2, by omega, fun e => ?_, fun _ e => ?_, fun _ _ p np => ?_⟩
          · have e0 := q1.nil_iff.mp e
            subst e0
            exact up_here h.2 R (.tup h2 q2)
          · have e0 := q2.nil_iff.mp e
            subst e0
            have h3 := h.2
            rw [List.append_nil] at h3
            exact up_here h3 R (.tup h1 q1)
          · exact h.2 m _ _ (le_new np) (R.new np) (.tup (SqT.of upd_same) ((q1.append q2).mono (le_new np)))
    · split at h
      · rename_i l k e1 e2
        obtain ⟨a, vs, rfl, ha, qa⟩ := r1.lq R e1
        obtain ⟨b, us, rfl, hb, qb⟩ := r2.lq R e2
        have hl := lim_le
        have f1 := qa.length
        have f2 := qb.length
        have := h.1
        exact op_catS pins s σ H _ _ v u Q I rx ry ⟨a, b, vs, us, rfl, rfl, ha, hb, by omega, fun p np => h.2 _ _ _ (le_push np) (R.pushL np (qa.append qb)) (.ref (R.last p))⟩
      · exact h.elim
  | Sub =>
    obtain ⟨i, j, rfl, rfl, _, q⟩ := bSub_use h
    cases r1; cases r2
    exact op_sub pins s σ H _ _ v u Q I rx ry ⟨_, _, rfl, rfl, up_here q R (.int _)⟩
  | Mult =>
    replace h : bMul dx dy S (up X.K cl m H Q) := h
    unfold bMul at h
    split at h
    · cases r1; cases r2
      refine op_mulW pins s σ H _ _ v u Q I rx ry ⟨_, _, rfl, rfl, ?_, up_here h.2.2 R (.int _)⟩
      have h1 := sm_log h.1
      have h2 := sm_log h.2.1
      unfold CMulW
      omega
    · split at h
      · rename_i l e1
        cases r2
        cases r1 with
        | ref e =>
          have e2 := lst_some (S := S) e1
          obtain ⟨vs, h1, q1⟩ := R.at_ _ _ _ e e2
          have hl := lim_le
          have f1 := q1.length
          obtain ⟨k0, k1, k2, k3⟩ := h
          refine op_rep pins s σ H _ _ v u Q I rx ry ⟨_, _, vs, rfl, rfl, h1, by omega, by omega, ?_, fun p np => k3 _ _ _ (le_push np) (R.pushL np (q1.replicate _)) (.ref (R.last p))⟩
          rw [← f1]
          omega
      · exact h.elim
    · exact h.elim
  | FloorDiv =>
    obtain ⟨i, j, rfl, rfl, c, q⟩ := bDiv_use h
    cases r1; cases r2
    refine op_fdivW pins s σ H _ _ v u Q I rx ry ⟨_, _, rfl, rfl, ⟨c.1, ?_⟩, up_here q R (.int _)⟩
    have := sm_log c.2
    omega
  | Mod =>
    obtain ⟨i, j, rfl, rfl, c, q⟩ := bMod_use h
    cases r1; cases r2
    exact op_mod pins s σ H _ _ v u Q I rx ry ⟨_, _, rfl, rfl, c, up_here q R (.int _)⟩
  | Pow =>
    obtain ⟨i, j, rfl, rfl, c, q⟩ := bPow_use h
    cases r1; cases r2
    exact op_pow2 pins s σ H _ _ v u Q I rx ry ⟨_, _, rfl, rfl, c, up_here q R (.int _)⟩
  | LShift =>
    obtain ⟨i, j, rfl, rfl, c, q⟩ := bShl_use h
    cases r1; cases r2
    exact op_shl pins s σ H _ _ v u Q I rx ry ⟨_, _, rfl, rfl, c, up_here q R (.int _)⟩
  | RShift =>
    obtain ⟨i, j, rfl, rfl, c, q⟩ := bShr_use h
    cases r1; cases r2
    exact op_shr pins s σ H _ _ v u Q I rx ry ⟨_, _, rfl, rfl, c, up_here q R (.int _)⟩
  | _ => exact (show False from h).elim
end
end Mn

/-! Comparisons. -/
namespace Mn
open PySem PySem.Spec PyProof.Rows L2
section
variable {X : Cx} {cl : Cl} {K : Fg} {m : List Addr} {H : Hp} {S : Store}
mutual
theorem Snap.dp (R : RS K cl m H S) : ∀ {d : D} {p : PyData} {v : V}, Snap S d p → RD K m H d v → Dp K H v p
  | _, _, _, .non, .non => .non
  | _, _, _, .bl b, .bl _ => .bl b
  | _, _, _, .int i, .int _ => .int i
  | _, _, _, .str x, .str _ => .str x
  | _, _, _, .tup s, .tup h q => .tup h (Snaps.dp R s q)
  | _, _, _, .lst e s, r => by
    obtain ⟨a, vs, rfl, h1, h2⟩ := r.lq R e
    exact .lst h1 (Snaps.dp R s h2)
theorem Snaps.dp (R : RS K cl m H S) : ∀ {ds : List D} {ps : List PyData} {vs : List V}, Snaps S ds ps → RDs K m H ds vs → DpAll K H vs ps
  | _, _, _, .nil, .nil => .nil
  | _, _, _, .cons s t, .cons r q => .cons (Snap.dp R s r) (Snaps.dp R t q)
end
theorem RD.flat {d : D} {v : V} (r : RD K m H d v) (h : d.scal = true) : flatV v = true := by
  cases r <;> first | rfl | cases h
theorem RD.sEq {d e : D} {v u : V} (r : RD K m H d v) (q : RD K m H e u) (h : d.scal = true) (h' : e.scal = true) : eqV v u = d.sEq e := by
  cases r <;> first | (cases h; done) | (cases q <;> first | (cases h'; done) | rfl)
theorem RDs.flat : ∀ {ds : List D} {vs : List V}, RDs K m H ds vs → ds.all D.scal = true → vs.all flatV = true
  | _, _, .nil, _ => rfl
  | _, _, .cons r q, h => by
    rw [List.all_cons, Bool.and_eq_true] at h ⊢
    exact ⟨r.flat h.1, RDs.flat q h.2⟩
theorem RDs.inV {x : D} {u : V} (rx : RD K m H x u) (hx : x.scal = true) : ∀ {ds : List D} {vs : List V}, RDs K m H ds vs → ds.all D.scal = true → L2.inV u vs = ds.any fun z => z.sEq x
  | _, _, .nil, _ => rfl
  | _, _, .cons r q, h => by
    rw [List.all_cons, Bool.and_eq_true] at h
    show ((eqV _ u) || L2.inV u _) = _
    rw [List.any_cons, RDs.inV rx hx q h.2, r.sEq rx h.1 hx]
theorem RDs.ints : ∀ {ds : List D} {vs : List V} {ns : List Int}, RDs K m H ds vs → ints? ds = some ns → vs = ns.map V.int
  | _, _, _, .nil, e => by cases e; rfl
  | _, _, _, .cons r q, e => by
    cases r with
    | int i =>
      unfold ints? at e
      cases e2 : ints? _ with
      | none => rw [e2] at e; cases e
      | some ms =>
        rw [e2] at e
        cases e
        rw [RDs.ints q e2]
        rfl
    | _ => cases e
/-- what a comparison of the layer is asked, by the small language's -/
def rC (K : Fg) (cl : Cl) (op : CmpOp) : R2 := fun x y H Q => ∃ m S dx dy, RS K cl m H S ∧ RD K m H dx x ∧ RD K m H dy y ∧ cmpB op dx dy S fun b => Q (.bl b) H
theorem eq_gen (neg : Bool) (hu : X.A.units + 150 < cLine) {pins : List (Addr × Obj)} {s : Shared} {σ : L2.St} {x y : V} {v u : Value} {Q : VK} (I : Inv X pins σ H s) (rx : RelV x v) (ry : RelV y u)
    {p q : PyData} (hp : Dp X.K H x p) (hq : Dp X.K H y q) (c1 : p.canLay0 = true) (c2 : q.canLay0 = true) (hd : min p.depth q.depth ≤ 150) (h : Q (.bl (if neg then !PyData.eqv p q else PyData.eqv p q)) H) :
    wpAny (model X.prog X.w) X.A (compareOp (if neg then .NotEq else .Eq) v u) (EP X pins σ Q) X.xe s := by
  obtain ⟨as, r1⟩ := Dp.reads I p x v hp rx
  obtain ⟨bs, r2⟩ := Dp.reads I q y u hq ry
  cases neg with
  | false => exact SeqAt.compareEq_reads r1 r2 c1 c2 (by omega) ⟨.bl _, H, I, rfl, h⟩
  | true => exact SeqAt.compareNe_reads r1 r2 c1 c2 (by omega) ⟨.bl _, H, I, rfl, h⟩
/-- scalars -/
theorem dec_sEq {d e : D} {v u : V} (r : RD K m H d v) (q : RD K m H e u) (hs : L2.scal v u = true) (h : d.scal = true) (h' : e.scal = true) : decide (v = u) = d.sEq e := by
  cases r <;> first
    | (cases h; done)
    | (cases q <;> first
        | (cases h'; done)
        | (cases hs; done)
        | rfl
        | (simp only [D.sEq, V.bl.injEq, V.int.injEq, V.str.injEq]; rw [Bool.beq_eq_decide_eq])
        | (simp [D.sEq]))
theorem scal_or {d e : D} {v u : V} (r : RD K m H d v) (q : RD K m H e u) (h : d.scal = true) (h' : e.scal = true) : L2.scal v u = true ∨ ∃ p p', Dp K H v p ∧ Dp K H u p' ∧ p.canLay0 = true ∧ p'.canLay0 = true ∧ min p.depth p'.depth ≤ 150 ∧ PyData.eqv p p' = d.sEq e := by
  cases r <;> first
    | (cases h; done)
    | (cases q <;> first
        | (cases h'; done)
        | exact .inl rfl
        | exact .inr ⟨_, _, .bl _, .int _, rfl, rfl, Nat.zero_le _, rfl⟩
        | exact .inr ⟨_, _, .int _, .bl _, rfl, rfl, Nat.zero_le _, rfl⟩)
theorem eq_scal (neg : Bool) (hu : X.A.units + 150 < cLine) {pins : List (Addr × Obj)} {s : Shared} {σ : L2.St} {x y : V} {v u : Value} {Q : VK} (I : Inv X pins σ H s) (rx : RelV x v) (ry : RelV y u)
    {d e : D} (r : RD X.K m H d x) (q : RD X.K m H e y) (h : d.scal = true) (h' : e.scal = true) (hq : Q (.bl (if neg then !d.sEq e else d.sEq e)) H) :
    wpAny (model X.prog X.w) X.A (compareOp (if neg then .NotEq else .Eq) v u) (EP X pins σ Q) X.xe s := by
  rcases scal_or r q h h' with hs | ⟨p, p', h1, h2, c1, c2, hd, he⟩
  · rw [← dec_sEq r q hs h h'] at hq
    cases neg with
    | false => exact op_eq pins s σ H _ _ v u Q I rx ry ⟨hs, hq⟩
    | true => exact op_ne pins s σ H _ _ v u Q I rx ry ⟨hs, hq⟩
  · rw [← he] at hq
    exact eq_gen neg hu I rx ry h1 h2 c1 c2 hd hq
theorem cEq_snd (neg : Bool) (hu : X.A.units + 150 < cLine) {pins : List (Addr × Obj)} {s : Shared} {σ : L2.St} {x y : V} {v u : Value} {Q : VK} (I : Inv X pins σ H s) (rx : RelV x v) (ry : RelV y u)
    {d e : D} (R : RS X.K cl m H S) (r : RD X.K m H d x) (q : RD X.K m H e y) (h : cEq d e S fun b => Q (.bl (if neg then !b else b)) H) :
    wpAny (model X.prog X.w) X.A (compareOp (if neg then .NotEq else .Eq) v u) (EP X pins σ Q) X.xe s := by
  unfold cEq at h
  split at h
  · rename_i hs
    rw [Bool.and_eq_true] at hs
    exact eq_scal neg hu I rx ry r q hs.1 hs.2 h
  · obtain ⟨p, p', s1, s2, c1, c2, hd, h⟩ := h
    exact eq_gen neg hu I rx ry (s1.dp R r) (s2.dp R q) c1 c2 hd h
theorem cmp_snd (op : CmpOp) (hu : X.A.units + 150 < cLine) : OpR X (compareOp op) (rC X.K cl op) := by
  intro pins s σ H x y v u Q I rx ry ⟨m, S, dx, dy, R, r1, r2, h⟩
  cases op with
  | Eq => exact cEq_snd false hu I rx ry R r1 r2 h
  | NotEq => exact cEq_snd true hu I rx ry R r1 r2 h
  | Lt =>
    replace h : cLt dx dy fun b => Q (.bl b) H := h
    unfold cLt at h
    split at h
    · cases r1; cases r2
      exact op_lt pins s σ H _ _ v u Q I rx ry ⟨_, _, rfl, rfl, h⟩
    · split at h
      · rename_i ns ms e1 e2
        cases r1 with
        | tup h1 q1 =>
          cases r2 with
          | tup h2 q2 =>
            have f1 := q1.ints e1
            have f2 := q2.ints e2
            subst f1 f2
            exact op_ltT (by omega) pins s σ H _ _ v u Q I rx ry ⟨_, _, ns, ms, rfl, rfl, h1, h2, h⟩
      · exact h.elim
    · exact h.elim
  | LtE =>
    replace h : cLe dx dy fun b => Q (.bl b) H := h
    unfold cLe at h
    split at h
    · cases r1; cases r2
      exact op_le pins s σ H _ _ v u Q I rx ry ⟨_, _, rfl, rfl, h⟩
    · exact h.elim
  | Gt =>
    replace h : cGt dx dy fun b => Q (.bl b) H := h
    unfold cGt at h
    split at h
    · cases r1; cases r2
      exact op_gt pins s σ H _ _ v u Q I rx ry ⟨_, _, rfl, rfl, h⟩
    · exact h.elim
  | GtE =>
    replace h : cGe dx dy fun b => Q (.bl b) H := h
    unfold cGe at h
    split at h
    · cases r1; cases r2
      exact op_ge pins s σ H _ _ v u Q I rx ry ⟨_, _, rfl, rfl, h⟩
    · exact h.elim
  | Is =>
    replace h : cIs dx dy fun b => Q (.bl b) H := h
    unfold cIs at h
    split at h
    · cases r2
      refine op_isN pins s σ H _ _ v u Q I rx ry ⟨rfl, ?_⟩
      cases r1 <;> exact h
    · split at h
      · cases r1; cases r2
        exact op_isBl pins s σ H _ _ v u Q I rx ry ⟨_, _, rfl, rfl, h⟩
      · exact h.elim
    · exact h.elim
  | IsNot =>
    replace h : cIs dx dy fun b => Q (.bl (!b)) H := h
    unfold cIs at h
    split at h
    · cases r2
      refine op_notN pins s σ H _ _ v u Q I rx ry ⟨rfl, ?_⟩
      cases r1 <;> exact h
    · split at h
      · cases r1; cases r2
        exact op_notBl pins s σ H _ _ v u Q I rx ry ⟨_, _, rfl, rfl, h⟩
      · exact h.elim
    · exact h.elim
  | In =>
    replace h : cIn dx dy S fun b => Q (.bl b) H := h
    unfold cIn at h
    split at h
    · rename_i l e
      obtain ⟨a, vs, rfl, hs, q⟩ := r2.seq R e
      refine op_in_seq pins s σ H _ _ v u Q I rx ry ⟨a, vs, rfl, hs, r1.flat h.1, q.flat h.2.1, ?_⟩
      rw [q.inV r1 h.1 h.2.1]
      exact h.2.2
    · exact h.elim
  | NotIn =>
    replace h : cIn dx dy S fun b => Q (.bl (!b)) H := h
    unfold cIn at h
    split at h
    · rename_i l e
      obtain ⟨a, vs, rfl, hs, q⟩ := r2.seq R e
      refine op_notIn_seq pins s σ H _ _ v u Q I rx ry ⟨a, vs, rfl, hs, r1.flat h.1, q.flat h.2.1, ?_⟩
      rw [q.inV r1 h.1 h.2.1]
      exact h.2.2
    · exact h.elim
end
end Mn

/-! Expressions: the check against the row's text, and that what is checked does what the small language says. -/
namespace Mn
open PySem PySem.Spec PyProof.Rows L2
/-! ### the check -/
def D.beq : D → D → Bool
  | .non, .non => true
  | .bl a, .bl b => a == b
  | .int a, .int b => decide (a = b)
  | .str a, .str b => decide (a = b)
  | .tup a, .tup b => beqs a b
  | _, _ => false
where beqs : List D → List D → Bool
  | [], [] => true
  | x :: xs, y :: ys => x.beq y && beqs xs ys
  | _, _ => false
/-- where a text stands: its names by slot, its scope, the defs (name, number, how many arguments), the constants, the built-ins' names that are free -/
structure Cxt where
  N : List Str
  sc : Scope
  fns : List (Str × Nat × Nat)
  csts : List (Str × D)
  free : List Str
def visB (sc : Scope) (x : Str) : Bool := match sc.names.lookup x with
  | some .local => true | some .cell => true | some .free => true | _ => false
def locB (sc : Scope) (x : Str) : Bool := match sc.names.lookup x with
  | some .local => true | some .cell => true | _ => false
def glB (sc : Scope) (x : Str) : Bool := match sc.names.lookup x with
  | some .globalImplicit => true | _ => false
def okN (x : Str) : Bool := !(x == ("__debug__" : Str)) && !(x == ("__classdict__" : Str)) && !decide (x = ("__name__" : Str))
def Cxt.bltn (c : Cxt) (x : Str) (b : Str) : Bool := decide (x = b) && glB c.sc x && c.free.contains x && okN x
def cstB : D → Const → Bool
  | .non, .none => true
  | .bl a, .bool b => a == b
  | .int a, .int b => decide (a = b)
  | .str a, .str b => decide (a = b)
  | _, _ => false
def starred : Expr → Bool
  | .Starred _ _ => true
  | _ => false
def isSlice : Expr → Bool
  | .Slice _ _ _ _ => true
  | _ => false
def tyB (c : Cxt) (t : Ty) (x : Expr) : Bool := match t, x with
  | .int, .Name x _ => c.bltn x "int"
  | .bool, .Name x _ => c.bltn x "bool"
  | .str, .Name x _ => c.bltn x "str"
  | .tuple, .Name x _ => c.bltn x "tuple"
  | .list, .Name x _ => c.bltn x "list"
  | .tl, .Tuple [.Name x _, .Name y _] _ _ => c.bltn x "tuple" && c.bltn y "list"
  | _, _ => false
/-- tests that the layer has a rule for -/
def tOk : E → Bool
  | .ite _ _ _ => false
  | .and a b => tOk a && tOk b
  | .or a b => tOk a && tOk b
  | .not a => tOk a
  | _ => true
mutual
def chkE (c : Cxt) : E → Expr → Bool
  | .bad, _ => true
  | .no, _ => false
  | .v i, x => (match x with
    | .Name x _ => decide (c.N[i]? = some x) && visB c.sc x && okN x
    | _ => false)
  | .cst d, x => (match x with
    | .Constant k _ _ => cstB d k
    | .Name x _ => glB c.sc x && okN x && c.csts.any fun p => decide (p.1 = x) && p.2.beq d
    | _ => false)
  | .and a b, x => (match x with
    | .BoolOp .And (x :: y :: r) pos => chkE c a x && (match r with
      | [] => chkE c b y
      | z :: r => chkE c b (.BoolOp .And (y :: z :: r) pos))
    | _ => false)
  | .or a b, x => (match x with
    | .BoolOp .Or (x :: y :: r) pos => chkE c a x && (match r with
      | [] => chkE c b y
      | z :: r => chkE c b (.BoolOp .Or (y :: z :: r) pos))
    | _ => false)
  | .not a, x => (match x with
    | .UnaryOp .Not x _ => chkE c a x
    | _ => false)
  | .ite t a b, x => (match x with
    | .IfExp x y z _ => chkE c t x && tOk t && chkE c a y && chkE c b z
    | _ => false)
  | .bin op a b, x => (match x with
    | .BinOp x op' y _ => decide (op = op') && chkE c a x && chkE c b y
    | _ => false)
  | .neg a, x => (match x with
    | .UnaryOp .USub x _ => chkE c a x
    | _ => false)
  | .cmp op a b, x => (match x with
    | .Compare x [op'] [y] _ => decide (op = op') && chkE c a x && chkE c b y && !behindInMarks op y
    | _ => false)
  | .chn op op2 a b d, x => (match x with
    | .Compare x [o1, o2] [y, z] _ => decide (op = o1) && decide (op2 = o2) && chkE c a x && chkE c b y && chkE c d z && !behindInMarks op y && !behindInMarks op2 z
    | _ => false)
  | .ix a i, x => (match x with
    | .Subscript x y _ => chkE c a x && chkE c i y && !isSlice y
    | _ => false)
  | .sl a lo hi, x => (match x with
    | .Subscript x (.Slice l h none _) _ => chkE c a x && (match l with
      | none => (match lo with | .no => true | _ => false)
      | some l => chkE c lo l) && (match h with
      | none => (match hi with | .no => true | _ => false)
      | some h => chkE c hi h)
    | _ => false)
  | .tup es, x => (match x with
    | .Tuple xs _ _ => chkEs c es xs
    | _ => false)
  | .lst es, x => (match x with
    | .List xs _ => chkEs c es xs
    | _ => false)
  | .call f es, x => (match x with
    | .Call (.Name x _) xs [] _ => glB c.sc x && okN x && chkEs c es xs && c.fns.any fun p => decide (p.1 = x) && decide (p.2.1 = f) && decide (p.2.2 = xs.length)
    | _ => false)
  | .blt b es, x => (match b with
    | .len => (match x with
      | .Call (.Name x _) [y] [] _ => c.bltn x "len" && chkEs c es [y]
      | _ => false)
    | .isi t => (match x with
      | .Call (.Name x _) [y, z] [] _ => c.bltn x "isinstance" && chkEs c es [y] && tyB c t z
      | _ => false)
    | .max2 => (match x with
      | .Call (.Name x _) [y, z] [] _ => c.bltn x "max" && chkEs c es [y, z]
      | _ => false)
    | .min2 => (match x with
      | .Call (.Name x _) [y, z] [] _ => c.bltn x "min" && chkEs c es [y, z]
      | _ => false))
def chkEs (c : Cxt) : Es → List Expr → Bool
  | .nil, xs => xs.isEmpty
  | .cons e es, xs => (match xs with
    | x :: xs => chkE c e x && !starred x && chkEs c es xs
    | [] => false)
end
/-! ### what a context must bear -/
/-- the promise of a def, by what the small language says of its call -/
def spOf (K : Fg) (cl : Cl) (F : Sem) (f ar : Nat) : Sp := fun vs H Q _ => ∃ m S ds, RS K cl m H S ∧ RDs K m H ds vs ∧ vs.length = ar ∧ F f ds S (up K cl m H Q) noX
structure FnAt (cl : Cl) (F : Sem) (X : Cx) (x : Str) (f ar : Nat) : Prop where
  ex : ∃ k fa fd ps, FnOk X.prog X.w X.K X.mg X.base CX0 k fa fd ps (spOf X.K cl F f ar) ∧ Room k X.A ∧ X.mg x = some (.ref fa) ∧ PySem.W.keepIn X.K (.ref fa) = true ∧ Binds X.K fd ps []
structure XOk (c : Cxt) (cl : Cl) (F : Sem) (X : Cx) : Prop where
  N : X.N = c.N
  nd : X.N.Nodup
  sc : X.env.scope = c.sc
  calm : X.calm = true
  units : X.A.units + 150 < cLine
  fns : ∀ x f ar, (x, f, ar) ∈ c.fns → FnAt cl F X x f ar
  csts : ∀ x d, (x, d) ∈ c.csts → ∃ u v, X.mg x = some u ∧ RelV v u ∧ ∀ m H, RD X.K m H d v
  free : ∀ x ∈ c.free, X.mg x = none
/-! ### readings -/
def LE (K : Fg) (cl : Cl) (t : Env → Store → DK → Prop) : TE := fun σ H Q => ∃ m ρ S, RS K cl m H S ∧ RE K m H ρ σ ∧ t ρ S (up K cl m H Q)
abbrev lE (K : Fg) (cl : Cl) (F : Sem) (e : E) : TE := LE K cl fun ρ S Q => wpE F e ρ S Q noX
def lA (K : Fg) (cl : Cl) (F : Sem) (es : Es) : TA := fun σ H Q => ∃ m ρ S, RS K cl m H S ∧ RE K m H ρ σ ∧ wpEs F es ρ S (fun ds S' => ∀ m' H' vs, Le m H m' H' → RS K cl m' H' S' → RDs K m' H' ds vs → Q vs H') noX
theorem PE.mono {X : Cx} {e : Expr} {t t' : TE} (h : PE X e t) (k : ∀ σ H Q, t' σ H Q → t σ H Q) : PE X e t' := ⟨fun pins s σ H Q I q => h.run pins s σ H Q I (k σ H Q q)⟩
theorem PT.mono {X : Cx} {e : Expr} {t t' : TT} (h : PT X e t) (k : ∀ σ H Q, t' σ H Q → t σ H Q) : PT X e t' := ⟨fun pins s σ H Q I q => h.run pins s σ H Q I (k σ H Q q)⟩
theorem PW.mono {X : Cx} {e : Expr} {t t' : TT} (h : PW X e t) (k : ∀ σ H Q, t' σ H Q → t σ H Q) : PW X e t' := ⟨fun wh pins s σ H Q I q => h.run wh pins s σ H Q I (k σ H Q q)⟩
theorem PA.mono {X : Cx} {e : List Expr} {t t' : TA} (h : PA X e t) (k : ∀ σ H Q, t' σ H Q → t σ H Q) : PA X e t' := ⟨fun pos pins s σ H Q I q => h.run pos pins s σ H Q I (k σ H Q q)⟩
theorem PO.mono {X : Cx} {e : Option Expr} {t t' : TO} (h : PO X e t) (k : ∀ σ H Q, t' σ H Q → t σ H Q) : PO X e t' := ⟨fun pins s σ H Q I q => h.run pins s σ H Q I (k σ H Q q)⟩
theorem PE.bad {X : Cx} {e : Expr} {t : TE} (h : ∀ σ H Q, ¬ t σ H Q) : PE X e t := ⟨fun pins s σ H Q I q => (h σ H Q q).elim⟩
theorem PT.bad {X : Cx} {e : Expr} {t : TT} (h : ∀ σ H Q, ¬ t σ H Q) : PT X e t := ⟨fun pins s σ H Q I q => (h σ H Q q).elim⟩
section
variable {K : Fg} {cl : Cl} {F : Sem} {m m1 : List Addr} {H H1 : Hp} {S : Store} {Q : VK}
theorem up_le (x : Le m H m1 H1) {d : D} (h : up K cl m H Q d S) : up K cl m1 H1 Q d S := fun m' H' v le => h m' H' v (x.trans le)
theorem le_step (hF : SemMono F) (e : E) {σ : L2.St} {ρ : Env} {P : DK} (R : RS K cl m H S) (re : RE K m H ρ σ) (h : wpE F e ρ S P noX)
    (k : ∀ d S' m' H' v, P d S' → Le m H m' H' → RS K cl m' H' S' → RD K m' H' d v → RE K m' H' ρ σ → Q v H') : lE K cl F e σ H Q :=
  ⟨m, ρ, S, R, re, wpE_mono hF e (fun d S' q m' H' v le R' rd => k d S' m' H' v q le R' rd (re.mono le)) (fun _ _ z => z) h⟩
theorem la_step (hF : SemMono F) (es : Es) {σ : L2.St} {ρ : Env} {P : List D → Store → Prop} {Q : List V → Hp → Prop} (R : RS K cl m H S) (re : RE K m H ρ σ) (h : wpEs F es ρ S P noX)
    (k : ∀ ds S' m' H' vs, P ds S' → Le m H m' H' → RS K cl m' H' S' → RDs K m' H' ds vs → RE K m' H' ρ σ → Q vs H') : lA K cl F es σ H Q :=
  ⟨m, ρ, S, R, re, wpEs_mono hF es (fun d S' q m' H' v le R' rd => k d S' m' H' v q le R' rd (re.mono le)) (fun _ _ z => z) h⟩
end
/-! ### built-ins -/
def tyN (S : Store) : D → Option String
  | .non => some "NoneType" | .bl _ => some "bool" | .int _ => some "int" | .str _ => some "str" | .tup _ => some "tuple" | .fl _ => some "list"
  | .ref n => (lst? S n).map fun _ => "list"
theorem RD.ty {K : Fg} {cl : Cl} {m : List Addr} {H : Hp} {S : Store} {d : D} {v : V} {n : String} (R : RS K cl m H S) (r : RD K m H d v) (e : tyN S d = some n) : TyX K H v (.type n) := by
  cases r with
  | non => cases e; exact .base .non
  | bl b => cases e; exact .base (.bl b)
  | int b => cases e; exact .base (.int b)
  | str b => cases e; exact .base (.str b)
  | tup h q =>
    cases e
    rcases h with (h | ⟨o, h⟩) | ⟨o, its, k, h1, h2, _⟩
    · exact .base (.tup h)
    · exact .fTuple h
    · exact .kTuple h1 h2
  | fl h q =>
    cases e
    rcases h with ⟨o, h⟩ | ⟨o, its, k, h1, h2, _⟩
    · exact .base (.frz h)
    · exact .kList h1 h2
  | @ref i a h =>
    have e2 : (lst? S i).map (fun _ => "list") = some n := e
    cases q : lst? S i with
    | none => rw [q] at e2; cases e2
    | some l =>
      rw [q] at e2
      cases e2
      obtain ⟨vs, h1, _⟩ := R.at_ i a _ h (lst_some q)
      exact .base (.lst h1)
def Ty.names : Ty → List String
  | .int => ["int"] | .bool => ["bool"] | .str => ["str"] | .tuple => ["tuple"] | .list => ["list"] | .tl => ["tuple", "list"]
def anyTy (n : String) : List String → Option Bool
  | [] => some false
  | t :: r => match kitB n t with
    | some true => some true
    | some false => anyTy n r
    | none => none
theorem anyTy_int : anyTy "int" ["int"] = some true ∧ anyTy "bool" ["int"] = some true ∧ anyTy "NoneType" ["int"] = some false ∧ anyTy "str" ["int"] = some false ∧ anyTy "tuple" ["int"] = some false ∧ anyTy "list" ["int"] = some false := by decide +kernel
theorem anyTy_bool : anyTy "int" ["bool"] = some false ∧ anyTy "bool" ["bool"] = some true ∧ anyTy "NoneType" ["bool"] = some false ∧ anyTy "str" ["bool"] = some false ∧ anyTy "tuple" ["bool"] = some false ∧ anyTy "list" ["bool"] = some false := by decide +kernel
theorem anyTy_str : anyTy "int" ["str"] = some false ∧ anyTy "bool" ["str"] = some false ∧ anyTy "NoneType" ["str"] = some false ∧ anyTy "str" ["str"] = some true ∧ anyTy "tuple" ["str"] = some false ∧ anyTy "list" ["str"] = some false := by decide +kernel
theorem anyTy_tuple : anyTy "int" ["tuple"] = some false ∧ anyTy "bool" ["tuple"] = some false ∧ anyTy "NoneType" ["tuple"] = some false ∧ anyTy "str" ["tuple"] = some false ∧ anyTy "tuple" ["tuple"] = some true ∧ anyTy "list" ["tuple"] = some false := by decide +kernel
theorem anyTy_list : anyTy "int" ["list"] = some false ∧ anyTy "bool" ["list"] = some false ∧ anyTy "NoneType" ["list"] = some false ∧ anyTy "str" ["list"] = some false ∧ anyTy "tuple" ["list"] = some false ∧ anyTy "list" ["list"] = some true := by decide +kernel
theorem anyTy_tl : anyTy "int" ["tuple", "list"] = some false ∧ anyTy "bool" ["tuple", "list"] = some false ∧ anyTy "NoneType" ["tuple", "list"] = some false ∧ anyTy "str" ["tuple", "list"] = some false ∧ anyTy "tuple" ["tuple", "list"] = some true ∧ anyTy "list" ["tuple", "list"] = some true := by decide +kernel
theorem isTy_any {S : Store} {x : D} {t : Ty} {b : Bool} (h : isTy S x t = some b) : ∃ n, tyN S x = some n ∧ anyTy n t.names = some b := by
  obtain ⟨i1, i2, i3, i4, i5, i6⟩ := anyTy_int
  obtain ⟨b1, b2, b3, b4, b5, b6⟩ := anyTy_bool
  obtain ⟨s1, s2, s3, s4, s5, s6⟩ := anyTy_str
  obtain ⟨t1, t2, t3, t4, t5, t6⟩ := anyTy_tuple
  obtain ⟨l1, l2, l3, l4, l5, l6⟩ := anyTy_list
  obtain ⟨m1, m2, m3, m4, m5, m6⟩ := anyTy_tl
  cases x with
  | ref n =>
    cases q : lst? S n with
    | none => cases t <;> simp [isTy, isL, q] at h
    | some l => refine ⟨"list", by simp [tyN, q], ?_⟩; cases t <;> simp [isTy, isL, q] at h <;> subst h <;> assumption
  | _ => cases t <;> (simp [isTy, isL] at h; subst h; exact ⟨_, rfl, by assumption⟩)
theorem kitAny_of {K : Fg} {n : String} : ∀ {ts : List String} {b : Bool}, anyTy n ts = some b → PySem.W.kitAny K (.type n) (ts.map Value.type) = some b
  | [], _, h => h
  | t :: r, b, h => by
    unfold anyTy at h
    rw [List.map_cons]
    unfold PySem.W.kitAny
    cases e : kitB n t with
    | none => rw [e] at h; cases h
    | some c =>
      rw [e] at h
      rw [kit_ty (K := K) e]
      cases c with
      | true => exact h
      | false => exact kitAny_of h
theorem kitOne_of {K : Fg} {n t : String} {b : Bool} (h : anyTy n [t] = some b) : PySem.W.kitOne K (.type n) (.type t) = some b := by
  unfold anyTy at h
  cases e : kitB n t with
  | none => rw [e] at h; cases h
  | some c =>
    rw [e] at h
    rw [kit_ty (K := K) e]
    cases c with
    | true => exact h
    | false => exact h
def rBt (K : Fg) (cl : Cl) (b : Bt) : List V → Hp → VK → Prop := fun vs H Q => ∃ m S ds, RS K cl m H S ∧ RDs K m H ds vs ∧ bt b ds S (up K cl m H Q)
section
variable {X : Cx} {cl : Cl}
theorem blt_len : CallR X (.builtin "len") (rBt X.K cl .len) := by
  intro pins s σ H xs us Q I r ⟨m, S, ds, R, rd, h⟩
  replace h : bLen ds S (up X.K cl m H Q) := h
  unfold bLen at h
  split at h
  · rename_i d
    split at h
    · rename_i n e
      cases rd with
      | cons r1 r2 =>
        cases r2
        have hl := lim_le
        have hq := up_here h.2 R (.int _)
        have hn := h.1
        cases r1 with
        | tup h1 q1 =>
          cases e
          exact call_len pins s σ H _ us Q I r ⟨_, _, rfl, .inr ⟨_, h1, q1.length⟩, hq⟩
        | fl h1 q1 =>
          cases e
          exact call_len pins s σ H _ us Q I r ⟨_, _, rfl, .inl ⟨_, h1.sq, q1.length⟩, hq⟩
        | str x =>
          cases e
          exact call_len pins s σ H _ us Q I r ⟨_, _, rfl, ⟨by omega, rfl⟩, hq⟩
        | @ref k a h1 =>
          unfold len? at e
          dsimp only at e
          split at e
          · rename_i l g
            cases e
            obtain ⟨vs, h2, q2⟩ := R.at_ k a _ h1 g
            exact call_len pins s σ H _ us Q I r ⟨_, _, rfl, .inl ⟨_, SqL.of h2, q2.length⟩, hq⟩
          · rename_i l g
            cases e
            obtain ⟨kvs, h2, e2, q2⟩ := R.at_ k a _ h1 g
            have e3 := congrArg List.length e2
            rw [List.length_map, List.length_map] at e3
            rw [e3] at hq
            exact call_lenD pins s σ H _ us Q I r ⟨_, _, rfl, h2, hq⟩
          · cases e
        | _ => cases e
    · exact h.elim
  · exact h.elim
theorem blt_isi (t : Ty) (vt : V) (ut : Value) (hn : t.names = [match vt with | .ty n => n | _ => ""]) (hk : ClsV vt ut) (hv : ∃ n, vt = .ty n) {pins : List (Addr × Obj)} {s : Shared} {σ : L2.St} {H : Hp} {v : V} {us : List Value} {Q : VK} (I : Inv X pins σ H s) (r : Vals [v, vt] us)
    {m : List Addr} {S : Store} {d : D} (R : RS X.K cl m H S) (rd : RD X.K m H d v) (h : bIsi t [d] S (up X.K cl m H Q)) : wpAny (model X.prog X.w) X.A (call (.builtin "isinstance") us) (EP X pins σ Q) X.xe s := by
  unfold bIsi at h
  dsimp only at h
  split at h
  · rename_i b e
    obtain ⟨n, e1, e2⟩ := isTy_any e
    obtain ⟨k, rfl⟩ := hv
    cases hk
    rw [hn] at e2
    exact call_isi pins s σ H _ us Q I r ⟨v, .ty k, .type n, .type k, b, rfl, .ty k, rd.ty R e1, kitOne_of e2, up_here h R (.bl _)⟩
  · exact h.elim
theorem blt_max2 (hc : X.calm = true) : CallR X (.builtin "max") (rBt X.K cl .max2) := by
  intro pins s σ H xs us Q I r ⟨m, S, ds, R, rd, h⟩
  replace h : b2I imax ds S (up X.K cl m H Q) := h
  unfold b2I at h
  split at h
  · cases rd with
    | cons r1 r2 =>
      cases r2 with
      | cons r2 r3 =>
        cases r3; cases r1; cases r2
        exact call_max2 hc pins s σ H _ us Q I r ⟨_, _, rfl, up_here h R (.int _)⟩
  · exact h.elim
theorem blt_min2 (hc : X.calm = true) : CallR X (.builtin "min") (rBt X.K cl .min2) := by
  intro pins s σ H xs us Q I r ⟨m, S, ds, R, rd, h⟩
  replace h : b2I imin ds S (up X.K cl m H Q) := h
  unfold b2I at h
  split at h
  · cases rd with
    | cons r1 r2 =>
      cases r2 with
      | cons r2 r3 =>
        cases r3; cases r1; cases r2
        exact call_min2 hc pins s σ H _ us Q I r ⟨_, _, rfl, up_here h R (.int _)⟩
  · exact h.elim
end
end Mn

/-! What is checked does what the small language says: expressions. -/
namespace Mn
open PySem PySem.Spec PyProof.Rows L2
theorem and3 {a b c : Bool} (h : (a && b && c) = true) : a = true ∧ b = true ∧ c = true := by
  rw [Bool.and_eq_true, Bool.and_eq_true] at h
  exact ⟨h.1.1, h.1.2, h.2⟩
theorem and2 {a b : Bool} (h : (a && b) = true) : a = true ∧ b = true := Bool.and_eq_true_iff.mp h
mutual
theorem D.beq_eq : ∀ {a b : D}, a.beq b = true → a = b
  | .non, b, h => by cases b <;> first | rfl | cases h
  | .bl x, b, h => by
    cases b <;> first | (cases h; done) | skip
    rw [show x = _ from eq_of_beq h]
  | .int x, b, h => by
    cases b <;> first | (cases h; done) | skip
    rw [show x = _ from of_decide_eq_true h]
  | .str x, b, h => by
    cases b <;> first | (cases h; done) | skip
    rw [show x = _ from of_decide_eq_true h]
  | .tup x, b, h => by
    cases b <;> first | (cases h; done) | skip
    rw [show x = _ from D.beqs_eq h]
  | .fl _, _, h => by cases h
  | .ref _, _, h => by cases h
theorem D.beqs_eq : ∀ {a b : List D}, D.beq.beqs a b = true → a = b
  | [], b, h => by cases b <;> first | rfl | cases h
  | x :: xs, b, h => by
    cases b with
    | nil => cases h
    | cons y ys =>
      obtain ⟨h1, h2⟩ := and2 h
      rw [D.beq_eq h1, D.beqs_eq h2]
end
theorem star_not {e : Expr} {es : List Expr} {env : PySem.Env} (h : starred e = false) : starEach (e :: es) env = (false, eval e env) :: starEach es env := by
  cases e <;> first | rfl | cases h
theorem star_any {env : PySem.Env} {pos : Pos} : ∀ {es : List Expr}, (∀ x ∈ es, starred x = false) → (backTo pos (starEach es env)).any (·.1) = false
  | [], _ => rfl
  | e :: es, h => by
    rw [star_not (h e List.mem_cons_self)]
    show (false || (backTo pos (starEach es env)).any (·.1)) = false
    rw [star_any fun x hx => h x (List.mem_cons_of_mem _ hx)]
    rfl
theorem chkEs_star {c : Cxt} : ∀ {es : Es} {xs : List Expr}, chkEs c es xs = true → ∀ x ∈ xs, starred x = false
  | .nil, xs, h => by
    cases xs with
    | nil => intro x hx; cases hx
    | cons _ _ => cases h
  | .cons e es, xs, h => by
    cases xs with
    | nil => cases h
    | cons y ys =>
      obtain ⟨h1, h2, h3⟩ := and3 (show (chkE c e y && !starred y && chkEs c es ys) = true from h)
      intro x hx
      rcases List.mem_cons.mp hx with rfl | hx
      · simpa using h2
      · exact chkEs_star h3 x hx
theorem chkEs_len {c : Cxt} : ∀ {es : Es} {xs : List Expr}, chkEs c es xs = true → es.len = xs.length
  | .nil, xs, h => by
    cases xs with
    | nil => rfl
    | cons _ _ => cases h
  | .cons e es, xs, h => by
    cases xs with
    | nil => cases h
    | cons y ys =>
      obtain ⟨h1, h2, h3⟩ := and3 (show (chkE c e y && !starred y && chkEs c es ys) = true from h)
      show es.len + 1 = ys.length + 1
      rw [chkEs_len h3]
theorem vis_of {sc : Scope} {x : Str} (h : visB sc x = true) : Vis sc x := by
  unfold visB at h
  split at h <;> first | exact .inl (by assumption) | exact .inr (.inl (by assumption)) | exact .inr (.inr (by assumption)) | cases h
theorem loc_of {sc : Scope} {x : Str} (h : locB sc x = true) : Loc sc x := by
  unfold locB at h
  split at h <;> first | exact .inl (by assumption) | exact .inr (by assumption) | cases h
theorem gl_of {sc : Scope} {x : Str} (h : glB sc x = true) : sc.names.lookup x = some .globalImplicit := by
  unfold glB at h
  split at h <;> first | assumption | cases h
theorem okN_of {x : Str} (h : okN x = true) : (x == ("__debug__" : Str)) = false ∧ (x == ("__classdict__" : Str)) = false ∧ x ≠ ("__name__" : Str) := by
  obtain ⟨h1, h2, h3⟩ := and3 h
  simp at h1 h2 h3
  exact ⟨by simpa using h1, by simpa using h2, h3⟩
theorem boot_isinstance : bootBuiltins "isinstance" = some (.builtin "isinstance") := by decide +kernel
theorem boot_max : bootBuiltins "max" = some (.builtin "max") := by decide +kernel
theorem boot_min : bootBuiltins "min" = some (.builtin "min") := by decide +kernel
theorem boot_intT : bootBuiltins "int" = some (.type "int") := by decide +kernel
theorem boot_boolT : bootBuiltins "bool" = some (.type "bool") := by decide +kernel
theorem boot_strT : bootBuiltins "str" = some (.type "str") := by decide +kernel
theorem boot_tupleT : bootBuiltins "tuple" = some (.type "tuple") := by decide +kernel
theorem boot_listT : bootBuiltins "list" = some (.type "list") := by decide +kernel
section
variable {c : Cxt} {cl : Cl} {F : Sem} {X : Cx}
theorem bltn_of (ok : XOk c cl F X) {x b : Str} (h : c.bltn x b = true) : x = b ∧ Gl X x ∧ X.mg x = none ∧ x ≠ ("__name__" : Str) ∧ (x == ("__debug__" : Str)) = false := by
  unfold Cxt.bltn at h
  obtain ⟨h123, h4⟩ := and2 h
  obtain ⟨h1, h2, h3⟩ := and3 h123
  refine ⟨of_decide_eq_true h1, ?_, ok.free x (by simpa using h3), (okN_of h4).2.2, (okN_of h4).1⟩
  show X.env.scope.names.lookup x = _
  rw [ok.sc]
  exact gl_of h2
/-- a built-in type's name, as a value -/
theorem pe_tyN (ok : XOk c cl F X) {x : Str} {n : String} {pos : Pos} (h : c.bltn x n = true) (hv : bootBuiltins (n : Str) = some (.type n)) : PE X (.Name x pos) (tC (.ty n)) := by
  obtain ⟨e, h1, h2, h3, h4⟩ := bltn_of ok h
  subst e
  exact pe_bltn h1 h2 hv rfl h3 h4
theorem pe_isi1 (hF : SemMono F) (ok : XOk c cl F X) {x : Str} {n : String} {p p' pos : Pos} {y : Expr} {e : E} (t : Ty) (hn : t.names = [n]) (hx : c.bltn x "isinstance" = true) (hy : PE X y (lE X.K cl F e)) (sy : starred y = false) {z : Str} (hz : c.bltn z n = true) (hv : bootBuiltins (n : Str) = some (.type n)) :
    PE X (.Call (.Name x p) [y, .Name z p'] [] pos) (lE X.K cl F (.blt (.isi t) (.cons e .nil))) := by
  obtain ⟨ex, h1, h2, h3, h4⟩ := bltn_of ok hx
  subst ex
  have r : CallR X (.builtin "isinstance") (fun vs H Q => ∃ v m S d, vs = [v, .ty n] ∧ RS X.K cl m H S ∧ RD X.K m H d v ∧ bIsi t [d] S (up X.K cl m H Q)) := by
    intro pins s σ H xs us Q I rv ⟨v, m, S, d, e, R, rd, h⟩
    subst e
    exact blt_isi t (.ty n) (.type n) hn (.ty n) ⟨n, rfl⟩ I rv R rd h
  have pz := pe_tyN ok (pos := p') hz hv
  have sz : starred (.Name z p') = false := rfl
  refine PE.mono (pe_callB r h1 h2 boot_isinstance (pa_cons hy (pa_cons pz pa_nil (star_not sz)) (star_not sy)) h3 h4 (star_not sy) (star_any fun w hw => ?_)) fun σ H Q q => ?_
  · rcases List.mem_cons.mp hw with rfl | hw
    · exact sz
    · cases hw
  · obtain ⟨m, ρ, S, R, re, h⟩ := q
    refine le_step hF e R re h fun d S1 m1 H1 v q le R1 rd re1 => ?_
    have q2 : bt (.isi t) [d] S1 (up X.K cl m H Q) := q
    exact ⟨v, m1, S1, d, rfl, R1, rd, bt_mono (fun _ _ => up_le le) q2⟩
/-- isinstance(y, (tuple, list)) -/
theorem pe_isi2 (hF : SemMono F) (ok : XOk c cl F X) {x : Str} {p p' p2 p3 pos : Pos} {k : Nat} {y : Expr} {e : E} (hx : c.bltn x "isinstance" = true) (hy : PE X y (lE X.K cl F e)) (sy : starred y = false) {z z2 : Str} (hz : c.bltn z "tuple" = true) (hz2 : c.bltn z2 "list" = true) :
    PE X (.Call (.Name x p) [y, .Tuple [.Name z p', .Name z2 p2] k p3] [] pos) (lE X.K cl F (.blt (.isi .tl) (.cons e .nil))) := by
  obtain ⟨ex, h1, h2, h3, h4⟩ := bltn_of ok hx
  subst ex
  have r : CallR X (.builtin "isinstance") (fun vs H Q => ∃ v tp m S d, vs = [v, .ref tp] ∧ H tp = some (.tup [.ty "tuple", .ty "list"]) ∧ RS X.K cl m H S ∧ RD X.K m H d v ∧ bIsi .tl [d] S (up X.K cl m H Q)) := by
    intro pins s σ H xs us Q I rv ⟨v, tp, m, S, d, e, ht, R, rd, h⟩
    subst e
    unfold bIsi at h
    dsimp only at h
    split at h
    · rename_i b e
      obtain ⟨n, e1, e2⟩ := isTy_any e
      exact call_isiT pins s σ H _ us Q I rv ⟨v, tp, [.ty "tuple", .ty "list"], .type n, [.type "tuple", .type "list"], b, rfl, ht, .cons (.ty _) (.cons (.ty _) .nil), rd.ty R e1, kitAny_of e2, up_here h R (.bl _)⟩
    · exact h.elim
  have pz := pe_tyN ok (pos := p') hz boot_tupleT
  have pz2 := pe_tyN ok (pos := p2) hz2 boot_listT
  have s1 : starred (.Name z p') = false := rfl
  have s2 : starred (.Name z2 p2) = false := rfl
  have pt : PE X (.Tuple [.Name z p', .Name z2 p2] k p3) _ := pe_tup (pa_cons pz (pa_cons pz2 pa_nil (star_not s2)) (star_not s1))
  have sz : starred (.Tuple [.Name z p', .Name z2 p2] k p3) = false := rfl
  refine PE.mono (pe_callB r h1 h2 boot_isinstance (pa_cons hy (pa_cons pt pa_nil (star_not sz)) (star_not sy)) h3 h4 (star_not sy) (star_any fun w hw => ?_)) fun σ H Q q => ?_
  · rcases List.mem_cons.mp hw with rfl | hw
    · exact sz
    · cases hw
  · obtain ⟨m, ρ, S, R, re, h⟩ := q
    refine le_step hF e R re h fun d S1 m1 H1 v q le R1 rd re1 => ?_
    refine ⟨by show 2 ≤ sizeLine; decide, fun tp np => ?_⟩
    have q2 : bt (.isi .tl) [d] S1 (up X.K cl m H Q) := q
    exact ⟨v, tp, m1, S1, d, rfl, upd_same, R1.new np, rd.mono (le_new np), bt_mono (fun _ _ => up_le (le.trans (le_new np))) q2⟩
/-- a subscript of a list or a tuple -/
def rIxD (K : Fg) (cl : Cl) : R2 := fun x y H Q => ∃ m S dx dy, RS K cl m H S ∧ RD K m H dx x ∧ RD K m H dy y ∧ ixD dx dy S (up K cl m H Q)
theorem RDs.atI {K : Fg} {m : List Addr} {H : Hp} {ds : List D} {vs : List V} {i : Int} {d : D} (r : RDs K m H ds vs) (e : L2.atI ds i = some d) : ∃ v, L2.atI vs i = some v ∧ RD K m H d v := by
  unfold L2.atI at e ⊢
  rw [r.length] at e
  cases q : ixN vs.length i with
  | none => rw [q] at e; cases e
  | some j =>
    rw [q] at e
    exact r.get e
theorem ix_snd : IxR X (rIxD X.K cl) := by
  intro value slice pins s σ H x y v u Q I rx ry ⟨m, S, dx, dy, R, r1, r2, h⟩ hs
  unfold ixD at h
  split at h
  · rename_i l e
    split at h
    · cases r2
      split at h
      · rename_i w ew
        obtain ⟨a, vs, rfl, hq, q⟩ := r1.seq R e
        obtain ⟨z, ez, rz⟩ := q.atI ew
        rcases hq with hq | hq
        · exact ix_list value slice pins s σ H _ _ v u Q I rx ry ⟨a, vs, _, z, rfl, rfl, hq, ez, up_here h R rz⟩ hs
        · exact ix_tup value slice pins s σ H _ _ v u Q I rx ry ⟨a, vs, _, z, rfl, rfl, hq, ez, up_here h R rz⟩ hs
      · exact h.elim
    · exact h.elim
  · exact h.elim
theorem plain_ix {b : Expr} (h : isSlice b = false) : PlainIx b := fun o i => by
  cases b <;> first | rfl | cases h
/-- a slice of a list or a tuple -/
def rSlD (K : Fg) (cl : Cl) : V → Option Int → Option Int → Hp → VK → Prop := fun x lo hi H Q => ∃ m S dx, RS K cl m H S ∧ RD K m H dx x ∧ slD dx lo hi S (up K cl m H Q)
theorem RDs.cut {K : Fg} {m : List Addr} {H : Hp} {ds : List D} {vs : List V} (r : RDs K m H ds vs) (lo hi : Option Int) : RDs K m H (cut ds lo hi) (cutV vs lo hi) := by
  unfold Mn.cut cutV
  rw [r.length]
  exact (r.drop _).take _
theorem sl_snd : SlR X (rSlD X.K cl) := by
  intro pins s σ H x v vl vu lo hi sl Q I rx hs pl pu ⟨m, S, dx, R, r1, h⟩
  unfold slD at h
  split at h
  · rename_i ds
    cases r1 with
    | @tup a vs _ h1 q1 =>
      refine sl_tupA pins s σ H _ v vl vu lo hi sl Q I rx hs pl pu ⟨a, vs, rfl, h1, fun hw => ?_, fun _ p np => ?_⟩
      · have e : Mn.cut ds lo hi = ds := by
          unfold Mn.cut
          rw [q1.length, hw.1, hw.2, List.drop_zero, Nat.sub_zero, ← q1.length, List.take_length]
        rw [e] at h
        exact up_here h R (.tup h1 q1)
      · exact h m _ _ (le_new np) (R.new np) (.tup (SqT.of upd_same) ((q1.cut lo hi).mono (le_new np)))
  · split at h
    · rename_i l e
      obtain ⟨a, vs, rfl, hq, q⟩ := r1.lq R e
      exact sl_list pins s σ H _ v vl vu lo hi sl Q I rx hs pl pu ⟨a, vs, rfl, hq, fun p np => h _ _ _ (le_push np) (R.pushL np (q.cut lo hi)) (.ref (R.last p))⟩
    · exact h.elim
/-- a part of a slice -/
def lO (K : Fg) (cl : Cl) (F : Sem) (e : E) : TO := fun σ H Q => ∃ m ρ S, RS K cl m H S ∧ RE K m H ρ σ ∧ wpE F e ρ S (fun d S' => ∃ o, optP e d = some o ∧ ∀ m' H', Le m H m' H' → RS K cl m' H' S' → Q o H') noX
theorem lo_step (hF : SemMono F) (e : E) {K : Fg} {m : List Addr} {H : Hp} {S : Store} {σ : L2.St} {ρ : Env} {P : DK} {Q : Option Int → Hp → Prop} (R : RS K cl m H S) (re : RE K m H ρ σ) (h : wpE F e ρ S P noX)
    (k : ∀ d S', P d S' → ∃ o, optP e d = some o ∧ ∀ m' H', Le m H m' H' → RS K cl m' H' S' → RE K m' H' ρ σ → Q o H') : lO K cl F e σ H Q :=
  ⟨m, ρ, S, R, re, wpE_mono hF e (fun d S' q => let ⟨o, eo, z⟩ := k d S' q; ⟨o, eo, fun m' H' le R' => z m' H' le R' (re.mono le)⟩) (fun _ _ z => z) h⟩
theorem po_snd {e : E} {x : Expr} (h : PE X x (lE X.K cl F e)) (hF : SemMono F) (hn : ∀ d o, optP e d = some o → ∃ i, d = .int i ∧ o = some i) : PO X (some x) (lO X.K cl F e) := by
  refine PO.mono (po_some h) fun σ H Q q => ?_
  obtain ⟨m, ρ, S, R, re, h⟩ := q
  refine le_step hF e R re h fun d S1 m1 H1 v q le R1 rd re1 => ?_
  obtain ⟨o, eo, k⟩ := q
  obtain ⟨i, rfl, rfl⟩ := hn d o eo
  cases rd
  exact ⟨i, rfl, k m1 H1 le R1⟩
theorem po_no : PO X none (lO X.K cl F .no) := by
  refine PO.mono po_none fun σ H Q q => ?_
  obtain ⟨m, ρ, S, R, re, h⟩ := q
  obtain ⟨o, eo, k⟩ := (show ∃ o, optP .no .non = some o ∧ ∀ m' H', Le m H m' H' → RS X.K cl m' H' S → Q o H' from h)
  cases eo
  exact k m H (Le.refl m H) R
theorem optP_int {e : E} (he : ∀ d, optP e d = match d with | .int i => some (some i) | _ => none) (d : D) (o : Option Int) (h : optP e d = some o) : ∃ i, d = .int i ∧ o = some i := by
  rw [he] at h
  split at h
  · cases h; exact ⟨_, rfl, rfl⟩
  · cases h
theorem optP_no {e : E} (hn : e ≠ .no) (d : D) : optP e d = match d with | .int i => some (some i) | _ => none := by
  cases e <;> first | exact absurd rfl hn | (cases d <;> rfl)
theorem no_of {e : E} {x : Expr} (h : chkE c e x = true) : e ≠ .no := by
  intro z
  subst z
  cases h
def plainX : Expr → Bool
  | .UnaryOp .Not _ _ => false | .BoolOp _ _ _ => false | .IfExp _ _ _ _ => false | .Compare _ _ _ _ => false | _ => true
theorem isT {x : Expr} (h : plainX x = true) (env : PySem.Env) : ∀ whole, isTrue x env whole = (do let v ← whole; standAt x.pos; holding [v] (truthy v)) := by
  intro whole
  cases x <;> first | rfl | (cases h; done) | (rename_i op _ _; cases op <;> first | rfl | cases h)
theorem not_t {b : Bool} (h : (!b) = true) : b = false := by simpa using h
/-- both readings of an expression: its value, and as a test -/
structure Snd (c : Cxt) (cl : Cl) (F : Sem) (X : Cx) (e : E) (x : Expr) : Prop where
  v : PE X x (lE X.K cl F e)
  t : tOk e = true → PT X x (tB (lE X.K cl F e))
theorem Snd.plain {e : E} {x : Expr} (h : PE X x (lE X.K cl F e)) (hp : plainX x = true) : Snd c cl F X e x :=
  ⟨h, fun _ => pt_val h (isT hp X.env)⟩
theorem bl_of {K : Fg} {m : List Addr} {H : Hp} {b : Bool} {v : V} (r : RD K m H (.bl b) v) : v = .bl b := by cases r; rfl
theorem int_of {K : Fg} {m : List Addr} {H : Hp} {b : Int} {v : V} (r : RD K m H (.int b) v) : v = .int b := by cases r; rfl
theorem and_v (hF : SemMono F) {a b : E} {σ : L2.St} {H : Hp} {Q : VK} (h : lE X.K cl F (.and a b) σ H Q) : tAndV (lE X.K cl F a) (lE X.K cl F b) σ H Q := by
  obtain ⟨m, ρ, S, R, re, h⟩ := h
  refine le_step hF a R re h fun d S1 m1 H1 v q le R1 rd re1 => ?_
  split at q
  · exact ⟨true, bl_of rd, le_step hF b R1 re1 q fun d2 S2 m2 H2 v2 q2 le2 R2 rd2 re2 => q2 m2 H2 v2 (le.trans le2) R2 rd2⟩
  · exact ⟨false, bl_of rd, up_here (up_le le q) R1 (.bl false)⟩
  · exact q.elim
theorem or_v (hF : SemMono F) {a b : E} {σ : L2.St} {H : Hp} {Q : VK} (h : lE X.K cl F (.or a b) σ H Q) : tOrV (lE X.K cl F a) (lE X.K cl F b) σ H Q := by
  obtain ⟨m, ρ, S, R, re, h⟩ := h
  refine le_step hF a R re h fun d S1 m1 H1 v q le R1 rd re1 => ?_
  split at q
  · exact ⟨true, bl_of rd, up_here (up_le le q) R1 (.bl true)⟩
  · exact ⟨false, bl_of rd, le_step hF b R1 re1 q fun d2 S2 m2 H2 v2 q2 le2 R2 rd2 re2 => q2 m2 H2 v2 (le.trans le2) R2 rd2⟩
  · exact q.elim
theorem and_t (hF : SemMono F) {a b : E} {σ : L2.St} {H : Hp} {Q : Bool → Hp → Prop} (h : tB (lE X.K cl F (.and a b)) σ H Q) : tAnd (tB (lE X.K cl F a)) (tB (lE X.K cl F b)) σ H Q := by
  obtain ⟨m, ρ, S, R, re, h⟩ := h
  refine le_step hF a R re h fun d S1 m1 H1 v q le R1 rd re1 => ?_
  split at q
  · exact ⟨true, bl_of rd, le_step hF b R1 re1 q fun d2 S2 m2 H2 v2 q2 le2 R2 rd2 re2 => q2 m2 H2 v2 (le.trans le2) R2 rd2⟩
  · obtain ⟨k, e, z⟩ := up_here (up_le le q) R1 (.bl false)
    cases e
    exact ⟨false, bl_of rd, z⟩
  · exact q.elim
theorem or_t (hF : SemMono F) {a b : E} {σ : L2.St} {H : Hp} {Q : Bool → Hp → Prop} (h : tB (lE X.K cl F (.or a b)) σ H Q) : tOr (tB (lE X.K cl F a)) (tB (lE X.K cl F b)) σ H Q := by
  obtain ⟨m, ρ, S, R, re, h⟩ := h
  refine le_step hF a R re h fun d S1 m1 H1 v q le R1 rd re1 => ?_
  split at q
  · obtain ⟨k, e, z⟩ := up_here (up_le le q) R1 (.bl true)
    cases e
    exact ⟨true, bl_of rd, z⟩
  · exact ⟨false, bl_of rd, le_step hF b R1 re1 q fun d2 S2 m2 H2 v2 q2 le2 R2 rd2 re2 => q2 m2 H2 v2 (le.trans le2) R2 rd2⟩
  · exact q.elim
theorem cmp_v (hF : SemMono F) {op : CmpOp} {a b : E} {σ : L2.St} {H : Hp} {Q : VK} (h : lE X.K cl F (.cmp op a b) σ H Q) : tOp (rC X.K cl op) (lE X.K cl F a) (lE X.K cl F b) σ H Q := by
  obtain ⟨m, ρ, S, R, re, h⟩ := h
  refine le_step hF a R re h fun d S1 m1 H1 v q le R1 rd re1 => le_step hF b R1 re1 q fun d2 S2 m2 H2 v2 q2 le2 R2 rd2 re2 => ?_
  exact ⟨m2, S2, d, d2, R2, rd.mono le2, rd2, cmpB_mono (fun k z => up_here (up_le (le.trans le2) z) R2 (.bl k)) q2⟩
theorem chn_v (hF : SemMono F) {op op2 : CmpOp} {a b d : E} {σ : L2.St} {H : Hp} {Q : VK} (h : lE X.K cl F (.chn op op2 a b d) σ H Q) : tChain (rC X.K cl op) (rC X.K cl op2) (lE X.K cl F a) (lE X.K cl F b) (lE X.K cl F d) σ H Q := by
  obtain ⟨m, ρ, S, R, re, h⟩ := h
  refine le_step hF a R re h fun d1 S1 m1 H1 v q le R1 rd re1 => le_step hF b R1 re1 q fun d2 S2 m2 H2 v2 q2 le2 R2 rd2 re2 => ?_
  refine ⟨m2, S2, d1, d2, R2, rd.mono le2, rd2, cmpB_mono (fun k z => ?_) q2⟩
  refine ⟨k, rfl, ?_⟩
  cases k with
  | true =>
    refine (if_pos rfl).mpr ?_
    refine le_step hF d R2 re2 z fun d3 S3 m3 H3 v3 q3 le3 R3 rd3 re3 => ?_
    exact ⟨m3, S3, d2, d3, R3, rd2.mono le3, rd3, cmpB_mono (fun k z => up_here (up_le ((le.trans le2).trans le3) z) R3 (.bl k)) q3⟩
  | false =>
    refine (if_neg Bool.false_ne_true).mpr ?_
    exact up_here (up_le (le.trans le2) z) R2 (.bl false)
theorem pe_blt1 (hF : SemMono F) (ok : XOk c cl F X) {x : Str} {n : String} {p pos : Pos} {y : Expr} {ys : List Expr} {b : Bt} {es : Es} (hx : c.bltn x n = true) (hy : PA X (y :: ys) (lA X.K cl F es)) (st : ∀ w ∈ y :: ys, starred w = false) (hv : bootBuiltins (n : Str) = some (.builtin n))
    (r : CallR X (.builtin n) (rBt X.K cl b)) : PE X (.Call (.Name x p) (y :: ys) [] pos) (lE X.K cl F (.blt b es)) := by
  obtain ⟨ex, h1, h2, h3, h4⟩ := bltn_of ok hx
  subst ex
  refine PE.mono (pe_callB r h1 h2 hv hy h3 h4 (star_not (st y List.mem_cons_self)) (star_any fun w hw => st w (List.mem_cons_of_mem _ hw))) fun σ H Q q => ?_
  obtain ⟨m, ρ, S, R, re, q⟩ := q
  refine la_step hF es R re q fun ds S1 m1 H1 vs q le R1 rd re1 => ?_
  exact ⟨m1, S1, ds, R1, rd, bt_mono (fun _ _ => up_le le) q⟩
mutual
theorem sndE (hF : SemMono F) (ok : XOk c cl F X) : ∀ (e : E) (x : Expr), chkE c e x = true → Snd c cl F X e x
  | .bad, x, _ => ⟨PE.bad fun σ H Q ⟨_, _, _, _, _, h⟩ => h, fun _ => PT.bad fun σ H Q ⟨_, _, _, _, _, h⟩ => h⟩
  | .no, x, h => by cases h
  | .v i, x, h => by
    unfold chkE at h
    split at h
    · obtain ⟨h1, h2, h3⟩ := and3 h
      obtain ⟨k1, k2, k3⟩ := okN_of h3
      refine Snd.plain (PE.mono (pe_var (i := i) (by rw [ok.N]; exact of_decide_eq_true h1) (by rw [ok.sc]; exact vis_of h2) k1 k2) fun σ H Q q => ?_) rfl
      obtain ⟨m, ρ, S, R, re, q⟩ := q
      replace q : (match ρ[i]? with | some (some d) => up X.K cl m H Q d S | _ => False) := q
      split at q
      · rename_i d e
        obtain ⟨v, ev, rd⟩ := re.at_ i d e
        exact ⟨v, ev, up_here q R rd⟩
      · exact q.elim
    · cases h
  | .cst d, x, h => by
    unfold chkE at h
    split at h
    · rename_i k kk pos
      unfold cstB at h
      split at h
      · exact Snd.plain (PE.mono pe_non fun σ H Q ⟨m, ρ, S, R, re, q⟩ => up_here q R .non) rfl
      · rw [show _ = _ from eq_of_beq h]
        exact Snd.plain (PE.mono pe_bl fun σ H Q ⟨m, ρ, S, R, re, q⟩ => up_here q R (.bl _)) rfl
      · rw [show _ = _ from of_decide_eq_true h]
        exact Snd.plain (PE.mono pe_int fun σ H Q ⟨m, ρ, S, R, re, q⟩ => up_here q R (.int _)) rfl
      · rw [show _ = _ from of_decide_eq_true h]
        exact Snd.plain (PE.mono pe_str fun σ H Q ⟨m, ρ, S, R, re, q⟩ => up_here q R (.str _)) rfl
      · cases h
    · obtain ⟨h1, h2, h3⟩ := and3 h
      obtain ⟨p, hp, h4⟩ := List.any_eq_true.mp h3
      obtain ⟨h5, h6⟩ := and2 h4
      obtain ⟨px, pd⟩ := p
      have e1 := of_decide_eq_true h5
      have e2 := D.beq_eq h6
      dsimp only at e1 e2
      subst e1 e2
      obtain ⟨u, v, g1, g2, g3⟩ := ok.csts _ _ hp
      refine Snd.plain (PE.mono (pe_glob (v := v) (show X.env.scope.names.lookup _ = _ by rw [ok.sc]; exact gl_of h1) g1 g2 (okN_of h2).1) fun σ H Q ⟨m, ρ, S, R, re, q⟩ => ?_) rfl
      exact up_here q R (g3 m H)
    · cases h
  | .and a b, x, h => by
    unfold chkE at h
    split at h
    · rename_i x y r pos
      obtain ⟨h1, h2⟩ := and2 h
      have A := sndE hF ok a x h1
      cases r with
      | nil =>
        have B := sndE hF ok b y h2
        refine ⟨PE.mono (pe_and A.v (pe_one B.v)) fun σ H Q => and_v hF, fun ht => ?_⟩
        obtain ⟨t1, t2⟩ := and2 ht
        exact PT.mono (PW.pt (pw_and (A.t t1) (pw_and1 (B.t t2)))) fun σ H Q => and_t hF
      | cons z r =>
        have B := sndE hF ok b _ h2
        refine ⟨PE.mono (pe_and A.v B.v) fun σ H Q => and_v hF, fun ht => ?_⟩
        obtain ⟨t1, t2⟩ := and2 ht
        refine PT.mono (PW.pt (pw_and (A.t t1) ?_)) fun σ H Q => and_t hF
        exact ⟨fun wh pins s σ H Q I q => (B.t t2).run pins s σ H Q I q⟩
    · cases h
  | .or a b, x, h => by
    unfold chkE at h
    split at h
    · rename_i x y r pos
      obtain ⟨h1, h2⟩ := and2 h
      have A := sndE hF ok a x h1
      cases r with
      | nil =>
        have B := sndE hF ok b y h2
        refine ⟨PE.mono (pe_or A.v (pe_one B.v)) fun σ H Q => or_v hF, fun ht => ?_⟩
        obtain ⟨t1, t2⟩ := and2 ht
        exact PT.mono (PW.pt (pw_or (A.t t1) (pw_or1 (B.t t2)))) fun σ H Q => or_t hF
      | cons z r =>
        have B := sndE hF ok b _ h2
        refine ⟨PE.mono (pe_or A.v B.v) fun σ H Q => or_v hF, fun ht => ?_⟩
        obtain ⟨t1, t2⟩ := and2 ht
        refine PT.mono (PW.pt (pw_or (A.t t1) ?_)) fun σ H Q => or_t hF
        exact ⟨fun wh pins s σ H Q I q => (B.t t2).run pins s σ H Q I q⟩
    · cases h
  | .not a, x, h => by
    unfold chkE at h
    split at h
    · have A := sndE hF ok a _ h
      refine ⟨PE.mono (pe_not A.v) fun σ H Q q => ?_, fun ht => PT.mono (pt_not (A.t ht)) fun σ H Q q => ?_⟩
      · obtain ⟨m, ρ, S, R, re, q⟩ := q
        refine le_step hF a R re q fun d S1 m1 H1 v q le R1 rd re1 => ?_
        split at q
        · exact ⟨_, bl_of rd, up_here (up_le le q) R1 (.bl _)⟩
        · exact q.elim
      · obtain ⟨m, ρ, S, R, re, q⟩ := q
        refine le_step hF a R re q fun d S1 m1 H1 v q le R1 rd re1 => ?_
        split at q
        · obtain ⟨k, e, z⟩ := up_here (up_le le q) R1 (.bl _)
          cases e
          exact ⟨_, bl_of rd, z⟩
        · exact q.elim
    · cases h
  | .ite t a b, x, h => by
    unfold chkE at h
    split at h
    · obtain ⟨h123, h4⟩ := and2 h
      obtain ⟨h1, h2, h3⟩ := and3 h123
      have T := (sndE hF ok t _ h1).t h2
      have A := (sndE hF ok a _ h3).v
      have B := (sndE hF ok b _ h4).v
      refine ⟨PE.mono (pe_ifExp T A B) fun σ H Q q => ?_, fun z => by cases z⟩
      obtain ⟨m, ρ, S, R, re, q⟩ := q
      refine le_step hF t R re q fun d S1 m1 H1 v q le R1 rd re1 => ?_
      split at q
      · exact ⟨true, bl_of rd, (if_pos rfl).mpr (le_step hF a R1 re1 q fun d2 S2 m2 H2 v2 q2 le2 R2 rd2 re2 => q2 m2 H2 v2 (le.trans le2) R2 rd2)⟩
      · exact ⟨false, bl_of rd, (if_neg Bool.false_ne_true).mpr (le_step hF b R1 re1 q fun d2 S2 m2 H2 v2 q2 le2 R2 rd2 re2 => q2 m2 H2 v2 (le.trans le2) R2 rd2)⟩
      · exact q.elim
    · cases h
  | .bin op a b, x, h => by
    unfold chkE at h
    split at h
    · obtain ⟨h1, h2, h3⟩ := and3 h
      have A := (sndE hF ok a _ h2).v
      have B := (sndE hF ok b _ h3).v
      have e := of_decide_eq_true h1
      subst e
      refine Snd.plain (PE.mono (pe_op (op_snd (cl := cl) op) A B) fun σ H Q q => ?_) rfl
      obtain ⟨m, ρ, S, R, re, q⟩ := q
      refine le_step hF a R re q fun d S1 m1 H1 v q le R1 rd re1 => le_step hF b R1 re1 q fun d2 S2 m2 H2 v2 q2 le2 R2 rd2 re2 => ?_
      exact ⟨m2, S2, d, d2, R2, rd.mono le2, rd2, bop_mono (fun _ _ => up_le (le.trans le2)) q2⟩
    · cases h
  | .neg a, x, h => by
    unfold chkE at h
    split at h
    · have A := (sndE hF ok a _ h).v
      refine Snd.plain (PE.mono (pe_un un_neg A) fun σ H Q q => ?_) rfl
      obtain ⟨m, ρ, S, R, re, q⟩ := q
      refine le_step hF a R re q fun d S1 m1 H1 v q le R1 rd re1 => ?_
      split at q
      · exact ⟨_, int_of rd, up_here (up_le le q) R1 (.int _)⟩
      · exact q.elim
    · cases h
  | .cmp op a b, x, h => by
    unfold chkE at h
    split at h
    · obtain ⟨h123, h4⟩ := and2 h
      obtain ⟨h1, h2, h3⟩ := and3 h123
      have A := (sndE hF ok a _ h2).v
      have B := (sndE hF ok b _ h3).v
      have e := of_decide_eq_true h1
      subst e
      have hm := not_t h4
      refine ⟨PE.mono (pe_cmpR (cmp_snd (cl := cl) op ok.units) A B hm) fun σ H Q => cmp_v hF, fun _ => ?_⟩
      exact PT.mono (pt_cmpR (cmp_snd (cl := cl) op ok.units) A B hm) fun σ H Q q => cmp_v hF q
    · cases h
  | .chn op op2 a b d, x, h => by
    unfold chkE at h
    split at h
    · obtain ⟨h12345, h6, h7⟩ := and3 h
      obtain ⟨h123, h4, h5⟩ := and3 h12345
      obtain ⟨h1, h2, h3⟩ := and3 h123
      have A := (sndE hF ok a _ h3).v
      have B := (sndE hF ok b _ h4).v
      have G := (sndE hF ok d _ h5).v
      have e := of_decide_eq_true h1
      have e2 := of_decide_eq_true h2
      subst e e2
      have hm := not_t h6
      have hm2 := not_t h7
      refine ⟨PE.mono (pe_chain (cmp_snd (cl := cl) op ok.units) (cmp_snd (cl := cl) op2 ok.units) A B G (show lastMarks _ _ = false from hm2)) fun σ H Q => chn_v hF, fun _ => ?_⟩
      exact PT.mono (pt_chain (cmp_snd (cl := cl) op ok.units) (cmp_snd (cl := cl) op2 ok.units) A B G (show lastMarks _ _ = false from hm2)) fun σ H Q q => chn_v hF q
    · cases h
  | .ix a i, x, h => by
    unfold chkE at h
    split at h
    · obtain ⟨h1, h2, h3⟩ := and3 h
      have A := (sndE hF ok a _ h1).v
      have B := (sndE hF ok i _ h2).v
      refine Snd.plain (PE.mono (pe_ix (ix_snd (cl := cl)) A B (plain_ix (by simpa using h3))) fun σ H Q q => ?_) rfl
      obtain ⟨m, ρ, S, R, re, q⟩ := q
      refine le_step hF a R re q fun d S1 m1 H1 v q le R1 rd re1 => le_step hF i R1 re1 q fun d2 S2 m2 H2 v2 q2 le2 R2 rd2 re2 => ?_
      exact ⟨m2, S2, d, d2, R2, rd.mono le2, rd2, ixD_mono (fun _ _ => up_le (le.trans le2)) q2⟩
    · cases h
  | .sl a lo hi, x, h => by
    unfold chkE at h
    split at h
    · rename_i x l u p2 pos
      obtain ⟨h1, h2, h3⟩ := and3 h
      have A := (sndE hF ok a _ h1).v
      have L : PO X l (lO X.K cl F lo) := by
        cases l with
        | none =>
          dsimp only at h2
          split at h2
          · exact po_no
          · cases h2
        | some l => exact po_snd (sndE hF ok lo _ h2).v hF (fun d o => optP_int (optP_no (no_of h2)) d o)
      have U : PO X u (lO X.K cl F hi) := by
        cases u with
        | none =>
          dsimp only at h3
          split at h3
          · exact po_no
          · cases h3
        | some l => exact po_snd (sndE hF ok hi _ h3).v hF (fun d o => optP_int (optP_no (no_of h3)) d o)
      refine Snd.plain (PE.mono (pe_slice (sl_snd (cl := cl)) A L U) fun σ H Q q => ?_) rfl
      obtain ⟨m, ρ, S, R, re, q⟩ := q
      refine le_step hF a R re q fun d S1 m1 H1 v q le R1 rd re1 => ?_
      refine lo_step hF lo R1 re1 q fun d2 S2 q2 => ?_
      split at q2
      · rename_i l el
        refine ⟨l, el, fun m2 H2 le2 R2 re2 => lo_step hF hi R2 re2 q2 fun d3 S3 q3 => ?_⟩
        split at q3
        · rename_i u eu
          exact ⟨u, eu, fun m3 H3 le3 R3 re3 => ⟨m3, S3, d, R3, rd.mono (le2.trans le3), slD_mono (fun _ _ => up_le ((le.trans le2).trans le3)) q3⟩⟩
        · exact q3.elim
      · exact q2.elim
    · cases h
  | .tup es, x, h => by
    unfold chkE at h
    split at h
    · have A := sndEs hF ok es _ h
      refine Snd.plain (PE.mono (pe_tup A) fun σ H Q q => ?_) rfl
      obtain ⟨m, ρ, S, R, re, q⟩ := q
      refine la_step hF es R re q fun ds S1 m1 H1 vs q le R1 rd re1 => ?_
      have hl := lim_le
      have e := rd.length
      have := q.1
      exact ⟨by omega, fun p np => q.2 m1 _ _ (le.trans (le_new np)) (R1.new np) (.tup (SqT.of upd_same) (rd.mono (le_new np)))⟩
    · cases h
  | .lst es, x, h => by
    unfold chkE at h
    split at h
    · have A := sndEs hF ok es _ h
      refine Snd.plain (PE.mono (pe_lst A) fun σ H Q q => ?_) rfl
      obtain ⟨m, ρ, S, R, re, q⟩ := q
      refine la_step hF es R re q fun ds S1 m1 H1 vs q le R1 rd re1 => ?_
      have hl := lim_le
      have e := rd.length
      have := q.1
      exact ⟨by omega, fun p np => q.2 _ _ _ (le.trans (le_push np)) (R1.pushL np rd) (.ref (R1.last p))⟩
    · cases h
  | .call f es, x, h => by
    unfold chkE at h
    split at h
    · rename_i x p xs pos
      obtain ⟨h123, h4⟩ := and2 h
      obtain ⟨h1, h2, h3⟩ := and3 h123
      obtain ⟨q, hq, h5⟩ := List.any_eq_true.mp h4
      obtain ⟨k1, k2, k3⟩ := and3 h5
      obtain ⟨qx, qf, qn⟩ := q
      have e1 := of_decide_eq_true k1
      have e2 := of_decide_eq_true k2
      have e3 := of_decide_eq_true k3
      dsimp only at e1 e2 e3
      subst e1 e2
      obtain ⟨k, fa, fd, ps, G, hr, hm, hk, hb⟩ := (ok.fns _ _ _ hq).ex
      have hg : Gl X qx := (show X.env.scope.names.lookup _ = _ by rw [ok.sc]; exact gl_of h1)
      have A := sndEs hF ok es _ h3
      have st := chkEs_star h3
      have key : ∀ σ H Q, lE X.K cl F (.call qf es) σ H Q → tCall (spOf X.K cl F qf qn) [] E0 (lA X.K cl F es) σ H Q := fun σ H Q q => by
        obtain ⟨m, ρ, S, R, re, q⟩ := q
        refine la_step hF es R re (wpEs_len hF es q) fun ds S1 m1 H1 vs q le R1 rd re1 => ?_
        refine ⟨m1, S1, ds, R1, by simpa using rd, ?_, hF _ _ _ _ _ _ _ (fun _ _ => up_le le) (fun _ _ z => z) q.1⟩
        rw [List.append_nil, ← rd.length, q.2, chkEs_len h3, e3]
      refine Snd.plain ?_ rfl
      cases xs with
      | nil =>
        refine PE.mono (pe_call0 G hr hg hm hk hb .nil (pass0 (X := X)) (okN_of h2).1) fun σ H Q q => ?_
        cases es with
        | nil =>
          obtain ⟨m, ρ, S, R, re, q⟩ := q
          exact ⟨m, S, [], R, .nil, e3.symm, q⟩
        | cons _ _ => cases h3
      | cons y ys => exact PE.mono (pe_call G hr hg hm hk hb .nil pass0 A (okN_of h2).1 (star_not (st y List.mem_cons_self)) (star_any fun w hw => st w (List.mem_cons_of_mem _ hw))) key
    · cases h
  | .blt b es, x, h => by
    cases b with
    | len =>
      unfold chkE at h
      dsimp only at h
      split at h
      · obtain ⟨h1, h2⟩ := and2 h
        exact Snd.plain (pe_blt1 hF ok h1 (sndEs hF ok es _ h2) (chkEs_star h2) boot_len blt_len) rfl
      · cases h
    | max2 =>
      unfold chkE at h
      dsimp only at h
      split at h
      · obtain ⟨h1, h2⟩ := and2 h
        exact Snd.plain (pe_blt1 hF ok h1 (sndEs hF ok es _ h2) (chkEs_star h2) boot_max (blt_max2 ok.calm)) rfl
      · cases h
    | min2 =>
      unfold chkE at h
      dsimp only at h
      split at h
      · obtain ⟨h1, h2⟩ := and2 h
        exact Snd.plain (pe_blt1 hF ok h1 (sndEs hF ok es _ h2) (chkEs_star h2) boot_min (blt_min2 ok.calm)) rfl
      · cases h
    | isi t =>
      unfold chkE at h
      dsimp only at h
      split at h
      · rename_i xn p y z pos
        obtain ⟨h1, h2, h3⟩ := and3 h
        cases es with
        | nil => cases h2
        | cons e es =>
          cases es with
          | cons _ _ =>
            obtain ⟨_, _, k⟩ := and3 (show (chkE c e y && !starred y && chkEs c _ []) = true from h2)
            cases k
          | nil =>
            obtain ⟨k1, k2, _⟩ := and3 (show (chkE c e y && !starred y && chkEs c .nil []) = true from h2)
            have A := (sndE hF ok e _ k1).v
            have st := not_t k2
            refine Snd.plain ?_ rfl
            unfold tyB at h3
            split at h3
            · exact pe_isi1 hF ok .int rfl h1 A st h3 boot_intT
            · exact pe_isi1 hF ok .bool rfl h1 A st h3 boot_boolT
            · exact pe_isi1 hF ok .str rfl h1 A st h3 boot_strT
            · exact pe_isi1 hF ok .tuple rfl h1 A st h3 boot_tupleT
            · exact pe_isi1 hF ok .list rfl h1 A st h3 boot_listT
            · obtain ⟨g1, g2⟩ := and2 h3
              exact pe_isi2 hF ok h1 A st g1 g2
            · cases h3
      · cases h
theorem sndEs (hF : SemMono F) (ok : XOk c cl F X) : ∀ (es : Es) (xs : List Expr), chkEs c es xs = true → PA X xs (lA X.K cl F es)
  | .nil, xs, h => by
    cases xs with
    | nil => exact PA.mono pa_nil fun σ H Q ⟨m, ρ, S, R, re, q⟩ => q m H [] (Le.refl m H) R .nil
    | cons _ _ => cases h
  | .cons e es, xs, h => by
    cases xs with
    | nil => cases h
    | cons x xs =>
      obtain ⟨h1, h2, h3⟩ := and3 (show (chkE c e x && !starred x && chkEs c es xs) = true from h)
      have A := (sndE hF ok e _ h1).v
      have B := sndEs hF ok es _ h3
      refine PA.mono (pa_cons A B (star_not (by simpa using h2))) fun σ H Q q => ?_
      obtain ⟨m, ρ, S, R, re, q⟩ := q
      refine le_step hF e R re q fun d S1 m1 H1 v q le R1 rd re1 => la_step hF es R1 re1 q fun ds S2 m2 H2 vs q2 le2 R2 rd2 re2 => ?_
      exact q2 m2 H2 _ (le.trans le2) R2 (.cons (rd.mono le2) rd2)
end
end
end Mn

/-! Statements: the check, and that what is checked does what the small language says. -/
namespace Mn
open PySem PySem.Spec PyProof.Rows L2
def isComp : Expr → Bool
  | .ListComp _ _ _ _ => true | .SetComp _ _ _ _ => true | .DictComp _ _ _ _ _ => true | _ => false
def isSet : Expr → Bool
  | .Set _ _ _ => true | _ => false
mutual
def chkTg (c : Cxt) : Tg → Expr → Bool
  | .nm i, x => (match x with
    | .Name x _ => decide (c.N[i]? = some x) && locB c.sc x
    | _ => false)
  | .tp ts, x => (match x with
    | .Tuple xs _ _ => chkTgs c ts xs
    | _ => false)
def chkTgs (c : Cxt) : Tgs → List Expr → Bool
  | .nil, xs => xs.isEmpty
  | .cons t ts, xs => (match xs with
    | x :: xs => chkTg c t x && chkTgs c ts xs
    | [] => false)
end
def chkIt (c : Cxt) : It → Expr → Bool
  | .seq e, x => chkE c e x
mutual
def chkC (c : Cxt) : C → Stmt → Bool
  | .bad, _ => true
  | .set i e, s => (match s with
    | .Assign [.Name x _] v _ => decide (c.N[i]? = some x) && locB c.sc x && chkE c e v && !isComp v
    | _ => false)
  | .setIx o i e, s => (match s with
    | .Assign [.Subscript x y _] v _ => chkE c o x && chkE c i y && chkE c e v && !isSlice y && !isComp v
    | _ => false)
  | .ret e, s => (match s with
    | .Return (some x) _ => chkE c e x
    | _ => false)
  | .ex e, s => (match s with
    | .Expr x _ => chkE c e x && !isComp x
    | _ => false)
  | .cond t a b, s => (match s with
    | .If x ys zs _ => chkE c t x && tOk t && chkCs c a ys && chkCs c b zs
    | _ => false)
  | .whl t b, s => (match s with
    | .While x ys [] _ => chkE c t x && tOk t && chkCs c b ys
    | _ => false)
  | .for_ t it b, s => (match s with
    | .For tg x ys [] _ => chkTg c t tg && chkIt c it x && chkCs c b ys && !isSet x
    | _ => false)
def chkCs (c : Cxt) : Cs → List Stmt → Bool
  | .nil, ss => ss.isEmpty
  | .cons a b, ss => (match ss with
    | s :: ss => chkC c a s && chkCs c b ss
    | [] => false)
end
/-! ### readings -/
def upE (K : Fg) (cl : Cl) (m0 : List Addr) (H0 : Hp) (D : L2.Ends) : Ends where
  nx := fun ρ S => ∀ m σ H, Le m0 H0 m H → RS K cl m H S → RE K m H ρ σ → D.nx σ H
  rt := up K cl m0 H0 D.rt
  bk := fun ρ S => ∀ m σ H, Le m0 H0 m H → RS K cl m H S → RE K m H ρ σ → D.bk σ H
  ct := fun ρ S => ∀ m σ H, Le m0 H0 m H → RS K cl m H S → RE K m H ρ σ → D.ct σ H
  xc := noX
def LS (K : Fg) (cl : Cl) (t : Ends → Env → Store → Prop) : TS := fun D σ H => ∃ m ρ S, RS K cl m H S ∧ RE K m H ρ σ ∧ t (upE K cl m H D) ρ S
theorem upE_le {K : Fg} {cl : Cl} {m m1 : List Addr} {H H1 : Hp} {D : L2.Ends} (x : Le m H m1 H1) : Ends.le (upE K cl m H D) (upE K cl m1 H1 D) :=
  ⟨fun ρ S h m' σ' H' le => h m' σ' H' (x.trans le), fun d S => up_le x, fun ρ S h m' σ' H' le => h m' σ' H' (x.trans le), fun ρ S h m' σ' H' le => h m' σ' H' (x.trans le), fun _ _ z => z⟩
theorem PS.mono {X : Cx} {st : Stmt} {t t' : TS} (h : PS X st t) (k : ∀ D σ H, t' D σ H → t D σ H) : PS X st t' := ⟨fun pins s σ H D I q => h.run pins s σ H D I (k D σ H q)⟩
theorem PSs.mono {X : Cx} {st : List Stmt} {t t' : TS} (h : PSs X st t) (k : ∀ D σ H, t' D σ H → t D σ H) : PSs X st t' := ⟨fun pins s σ H D I q => h.run pins s σ H D I (k D σ H q)⟩
theorem swaps_not {v : Expr} {t : Option Expr} {l : Nat} {env : PySem.Env} (h : isComp v = false) : swapsWith v t l env = pure false := by
  cases v <;> first | rfl | cases h
theorem sole_not {v t : Expr} {l : Nat} {env : PySem.Env} (h : isComp v = false) : swapsWithSole [t] v l env = pure false := swaps_not h
section
variable {c : Cxt} {cl : Cl} {F : Sem} {X : Cx}
/-- what a statement's context must bear besides -/
structure SOk (c : Cxt) (cl : Cl) (F : Sem) (X : Cx) : Prop where
  x : XOk c cl F X
  fn : ∀ x, X.fn x = true
  xe : X.xe = fun _ _ => False
theorem SOk.own (ok : SOk c cl F X) : PassesOwn (model X.prog X.w) X.A X.env X.xe := by
  rw [ok.xe]
  exact PassesOwn.never
/-! ### targets -/
def lG (K : Fg) (cl : Cl) (t : Tg) : TG := fun v σ H Q => ∃ m ρ S d ρ', RS K cl m H S ∧ RE K m H ρ σ ∧ RD K m H d v ∧ t.bind d ρ = some ρ' ∧ ∀ m' H' σ', Le m H m' H' → RS K cl m' H' S → RE K m' H' ρ' σ' → Q σ' H'
theorem PG.mono {e : Expr} {t t' : TG} (h : PG X e t) (k : ∀ v σ H Q, t' v σ H Q → t v σ H Q) : PG X e t' := ⟨fun pins s σ H v u Q I r q => h.run pins s σ H v u Q I r (k v σ H Q q)⟩
theorem bind_some {a : Option Env} {f : Env → Option Env} {r : Env} (h : a.bind f = some r) : ∃ b, a = some b ∧ f b = some r := by
  cases a with
  | none => cases h
  | some b => exact ⟨b, rfl, h⟩
theorem lG_go {K : Fg} {t : Tg} {m : List Addr} {ρ : Env} {S : Store} {d : D} {ρ' : Env} {v : V} {σ : L2.St} {H : Hp} {Q : L2.St → Hp → Prop} (R : RS K cl m H S) (re : RE K m H ρ σ) (rd : RD K m H d v) (e : t.bind d ρ = some ρ')
    (k : ∀ m' H' σ', Le m H m' H' → RS K cl m' H' S → RE K m' H' ρ' σ' → Q σ' H') : lG K cl t v σ H Q := ⟨m, ρ, S, d, ρ', R, re, rd, e, k⟩
theorem each_cons {x : Expr} {xs : List Expr} {env : PySem.Env} (h : starred x = false) : (assignEach (x :: xs) env).map (·.2) = assign x env :: (assignEach xs env).map (·.2) := by
  cases x <;> first | rfl | cases h
theorem each_len {env : PySem.Env} : ∀ {xs : List Expr}, (assignEach xs env).length = xs.length
  | [] => rfl
  | x :: xs => by
    have ih := each_len (env := env) (xs := xs)
    cases x <;> (show (assignEach xs env).length + 1 = xs.length + 1; rw [ih])
theorem each_star {env : PySem.Env} : ∀ {xs : List Expr}, (∀ x ∈ xs, starred x = false) → (assignEach xs env).findIdx? (·.1) = none
  | [], _ => rfl
  | x :: xs, h => by
    have ih := each_star (env := env) (xs := xs) fun y hy => h y (List.mem_cons_of_mem _ hy)
    have hx := h x List.mem_cons_self
    have e : ∃ f, assignEach (x :: xs) env = (false, f) :: assignEach xs env := by cases x <;> first | exact ⟨_, rfl⟩ | cases hx
    obtain ⟨f, e⟩ := e
    rw [e, List.findIdx?_cons]
    simp [ih]
theorem tg_star {t : Tg} {x : Expr} (h : chkTg c t x = true) : starred x = false := by
  cases t <;> (unfold chkTg at h; split at h <;> first | rfl | cases h)
theorem tgs_star : ∀ {ts : Tgs} {xs : List Expr}, chkTgs c ts xs = true → ∀ x ∈ xs, starred x = false
  | .nil, xs, h => by
    cases xs with
    | nil => intro x hx; cases hx
    | cons _ _ => cases h
  | .cons t ts, xs, h => by
    cases xs with
    | nil => cases h
    | cons y ys =>
      obtain ⟨h1, h2⟩ := and2 (show (chkTg c t y && chkTgs c ts ys) = true from h)
      intro x hx
      rcases List.mem_cons.mp hx with rfl | hx
      · exact tg_star h1
      · exact tgs_star h2 x hx
def lGs (K : Fg) (cl : Cl) (ts : Tgs) : TGs := fun vs σ H Q => ∃ m ρ S ds ρ', RS K cl m H S ∧ RE K m H ρ σ ∧ RDs K m H ds vs ∧ ts.bind ds ρ = some ρ' ∧ ∀ m' H' σ', Le m H m' H' → RS K cl m' H' S → RE K m' H' ρ' σ' → Q σ' H'
theorem PGs.mono {es : List Expr} {t t' : TGs} (h : PGs X es t) (k : ∀ v σ H Q, t' v σ H Q → t v σ H Q) : PGs X es t' := ⟨fun pins s σ H v u Q I r q => h.run pins s σ H v u Q I r (k v σ H Q q)⟩
theorem tgs_len : ∀ {ts : Tgs} {xs : List Expr} {ds : List D} {ρ ρ' : Env}, chkTgs c ts xs = true → ts.bind ds ρ = some ρ' → ds.length = xs.length
  | .nil, xs, ds, _, _, h, e => by
    cases xs with
    | cons _ _ => cases h
    | nil =>
      cases ds with
      | nil => rfl
      | cons _ _ => cases e
  | .cons t ts, xs, ds, ρ, ρ', h, e => by
    cases xs with
    | nil => cases h
    | cons y ys =>
      cases ds with
      | nil => cases e
      | cons d ds =>
        obtain ⟨h1, h2⟩ := and2 (show (chkTg c t y && chkTgs c ts ys) = true from h)
        unfold Tgs.bind at e
        dsimp only at e
        split at e
        · rw [List.length_cons, List.length_cons, tgs_len h2 e]
        · cases e
mutual
theorem sndTg (ok : SOk c cl F X) : ∀ (t : Tg) (x : Expr), chkTg c t x = true → PG X x (lG X.K cl t)
  | .nm i, x, h => by
    unfold chkTg at h
    split at h
    · obtain ⟨h1, h2⟩ := and2 h
      refine PG.mono (pg_name (i := i) ok.x.nd (by rw [ok.x.N]; exact of_decide_eq_true h1) (by rw [ok.x.sc]; exact loc_of h2) (.inl (ok.fn _))) fun v σ H Q q => ?_
      obtain ⟨m, ρ, S, d, ρ', R, re, rd, e, k⟩ := q
      cases e
      exact k m H _ (Le.refl m H) R (re.set rd i)
    · cases h
  | .tp ts, x, h => by
    unfold chkTg at h
    split at h
    · rename_i xs kk pos
      have A := sndTgs ok ts _ h
      refine PG.mono (pg_tup (n := xs.length) ok.x.calm A each_len (each_star (tgs_star h))) fun v σ H Q q => ?_
      obtain ⟨m, ρ, S, d, ρ', R, re, rd, e, k⟩ := q
      unfold Tg.bind at e
      split at e
      · cases rd with
        | tup ht qt => exact ⟨_, _, rfl, ht, by rw [← qt.length]; exact tgs_len h e, m, ρ, S, _, ρ', R, re, qt, e, k⟩
      · cases e
    · cases h
theorem sndTgs (ok : SOk c cl F X) : ∀ (ts : Tgs) (xs : List Expr), chkTgs c ts xs = true → PGs X xs (lGs X.K cl ts)
  | .nil, xs, h => by
    cases xs with
    | cons _ _ => cases h
    | nil =>
      refine PGs.mono pgs_nil fun vs σ H Q q => ?_
      obtain ⟨m, ρ, S, ds, ρ', R, re, rd, e, k⟩ := q
      cases rd with
      | nil => cases e; exact ⟨rfl, k m H σ (Le.refl m H) R re⟩
      | cons _ _ => cases e
  | .cons t ts, xs, h => by
    cases xs with
    | nil => cases h
    | cons x xs =>
      obtain ⟨h1, h2⟩ := and2 (show (chkTg c t x && chkTgs c ts xs) = true from h)
      have A := sndTg ok t _ h1
      have B := sndTgs ok ts _ h2
      refine PGs.mono (pgs_cons A B (each_cons (tg_star h1))) fun vs σ H Q q => ?_
      obtain ⟨m, ρ, S, ds, ρ', R, re, rd, e, k⟩ := q
      cases rd with
      | nil => cases e
      | cons r1 r2 =>
        unfold Tgs.bind at e
        dsimp only at e
        split at e
        · rename_i ρ1 e1
          exact ⟨_, _, rfl, lG_go R re r1 e1 fun m1 H1 σ1 le1 R1 re1 => ⟨m1, ρ1, S, _, ρ', R1, re1, r2.mono le1, e, fun m2 H2 σ2 le2 => k m2 H2 σ2 (le1.trans le2)⟩⟩
        · cases e
end
/-! ### what a for walks -/
/-- an expression's value is walked: a list or a tuple -/
def iSeq (K : Fg) (te : TE) : TI := fun σ H R => te σ H fun x H1 => ∃ a, x = .ref a ∧ (((∃ xs, SqL K H1 a xs) ∧ R (Itl K a) H1) ∨ ((∃ xs, SqT K H1 a xs) ∧ R (Itt K a) H1))
theorem pi_seq {tg l : Expr} {te : TE} (hl : PE X l te) : PI X tg l (iSeq X.K te) := by
  refine ⟨fun pins s σ H R I h => thn (hl.run pins s σ H _ I h) fun v s1 ⟨x, H1, I1, r1, a, ex, q1⟩ => ?_⟩
  subst ex
  cases r1
  have new : ∀ b ∈ [s1.heap.objs.size], FpOk X pins H1 b := fun b hb => by
    rw [List.mem_singleton.mp hb]
    exact I1.fpOk (Nat.le_refl _) (I1.hok.fresh (Nat.le_refl _))
  rcases q1 with ⟨⟨xs, hq⟩, q⟩ | ⟨⟨xs, hq⟩, q⟩
  · obtain ⟨its, _, pl, _⟩ := I1.list hq
    exact wpAny_pyIter_list pl.isList ⟨_, _, _, _, H1, rfl, I1.kept (t' := s1.toks) fun _ _ => Heap.get?_push_of_some _,
      turn_list a _, ⟨_, Heap.get?_push_size _ rfl, rfl, rfl⟩, new, q⟩
  · obtain ⟨its, _, pt, _⟩ := I1.tuple hq
    exact wpAny_pyIter_tuple (items := its.toArray) pt ⟨_, _, _, _, H1, rfl, I1.kept (t' := s1.toks) fun _ _ => Heap.get?_push_of_some _,
      turn_tuple a _, ⟨_, Heap.get?_push_size _ rfl, rfl, rfl⟩, new, q⟩
/-- while G holds of the store the walk J yields the items l -/
def Walks (K : Fg) (cl : Cl) (m1 : List Addr) (H1 : Hp) (J : L2.It) (l : List D) (G : Store → Prop) : Prop :=
  (∀ m H S i, Le m1 H1 m H → RS K cl m H S → G S → l.length ≤ i → J.stop i H) ∧
  (∀ m H S i d, Le m1 H1 m H → RS K cl m H S → G S → l[i]? = some d → J.go i H ∧ ∀ x H', J.yld i H x H' → ∃ m', Le m H m' H' ∧ RS K cl m' H' S ∧ RD K m' H' d x)
theorem walks_seq {K : Fg} {m1 : List Addr} {H1 : Hp} {S1 : Store} {a : Addr} {x : D} {l : List D} {G : Store → Prop} (R1 : RS K cl m1 H1 S1) (rd : RD K m1 H1 x (.ref a))
    (h : (x = .tup l ∧ G = fun _ => True) ∨ (x = .fl l ∧ G = fun _ => True) ∨ ∃ n, x = .ref n ∧ lst? S1 n = some l ∧ G = fun S => lst? S n = some l) :
    ((∃ xs, SqL K H1 a xs) ∧ Walks K cl m1 H1 (Itl K a) l G) ∨ ((∃ xs, SqT K H1 a xs) ∧ Walks K cl m1 H1 (Itt K a) l G) := by
  rcases h with ⟨rfl, rfl⟩ | ⟨rfl, rfl⟩ | ⟨n, rfl, e, rfl⟩
  · cases rd with
    | @tup _ vs _ ht q =>
      refine .inr ⟨⟨_, ht⟩, fun m H S i le R _ hi => ⟨vs, le.sqT ht, by rw [← q.length]; exact hi⟩, fun m H S i d le R _ hd => ?_⟩
      obtain ⟨v, hv, rv⟩ := q.get hd
      refine ⟨⟨vs, v, le.sqT ht, hv⟩, fun y H' hy => ?_⟩
      obtain ⟨e1, e2⟩ := hy
      subst e1
      have e3 := e2 vs (le.sqT ht)
      rw [hv] at e3
      cases e3
      exact ⟨m, Le.refl m H', R, rv.mono le⟩
  · cases rd with
    | @fl _ vs _ ht q =>
      refine .inl ⟨⟨_, ht.sq⟩, fun m H S i le R _ hi => ⟨vs, (le.pers ht).sq, by rw [← q.length]; exact hi⟩, fun m H S i d le R _ hd => ?_⟩
      obtain ⟨v, hv, rv⟩ := q.get hd
      refine ⟨⟨vs, v, (le.pers ht).sq, hv⟩, fun y H' hy => ?_⟩
      obtain ⟨e1, e2⟩ := hy
      subst e1
      have e3 := e2 vs (le.pers ht).sq
      rw [hv] at e3
      cases e3
      exact ⟨m, Le.refl m H', R, rv.mono le⟩
  · cases rd with
    | ref hm =>
      obtain ⟨vs0, h0, _⟩ := R1.at_ n a _ hm (lst_some e)
      refine .inl ⟨⟨_, SqL.of h0⟩, fun m H S i le R g hi => ?_, fun m H S i d le R g hd => ?_⟩
      · obtain ⟨vs, h1, q⟩ := R.at_ n a _ (le.pre _ _ hm) (lst_some g)
        exact ⟨vs, SqL.of h1, by rw [← q.length]; exact hi⟩
      · obtain ⟨vs, h1, q⟩ := R.at_ n a _ (le.pre _ _ hm) (lst_some g)
        obtain ⟨v, hv, rv⟩ := q.get hd
        refine ⟨⟨vs, v, SqL.of h1, hv⟩, fun y H' hy => ?_⟩
        obtain ⟨e1, e2⟩ := hy
        subst e1
        have e3 := e2 vs (SqL.of h1)
        rw [hv] at e3
        cases e3
        exact ⟨m, Le.refl m H', R, rv⟩
/-- the walk of the small language, as one of the layer -/
def lI (K : Fg) (cl : Cl) (F : Sem) (it : It) : TI := fun σ H R => ∃ m ρ S, RS K cl m H S ∧ RE K m H ρ σ ∧ wpIt F it ρ S (fun l G S1 => ∀ m1 H1 J, Le m H m1 H1 → RS K cl m1 H1 S1 → Walks K cl m1 H1 J l G → R J H1) noX
theorem PI.mono {tg l : Expr} {t t' : TI} (h : PI X tg l t) (k : ∀ σ H R, t' σ H R → t σ H R) : PI X tg l t' := ⟨fun pins s σ H R I q => h.run pins s σ H R I (k σ H R q)⟩
theorem sndIt (hF : SemMono F) (ok : XOk c cl F X) {tg : Expr} : ∀ (it : It) (x : Expr), chkIt c it x = true → PI X tg x (lI X.K cl F it)
  | .seq e, x, h => by
    refine PI.mono (pi_seq (sndE hF ok e _ h).v) fun σ H R q => ?_
    obtain ⟨m, ρ, S, RR, re, q⟩ := q
    refine le_step hF e RR re q fun d S1 m1 H1 v q le R1 rd re1 => ?_
    have key : ∀ {l : List D} {G : Store → Prop}, ((d = .tup l ∧ G = fun _ => True) ∨ (d = .fl l ∧ G = fun _ => True) ∨ ∃ n, d = .ref n ∧ lst? S1 n = some l ∧ G = fun S => lst? S n = some l) →
        (∀ m' H' J, Le m H m' H' → RS X.K cl m' H' S1 → Walks X.K cl m' H' J l G → R J H') → ∀ {a : Addr}, v = .ref a → ∃ a, v = .ref a ∧ (((∃ xs, SqL X.K H1 a xs) ∧ R (Itl X.K a) H1) ∨ ((∃ xs, SqT X.K H1 a xs) ∧ R (Itt X.K a) H1)) := by
      intro l G hd k a ev
      subst ev
      refine ⟨a, rfl, ?_⟩
      rcases walks_seq R1 rd hd with ⟨h1, h2⟩ | ⟨h1, h2⟩
      · exact .inl ⟨h1, k _ _ _ le R1 h2⟩
      · exact .inr ⟨h1, k _ _ _ le R1 h2⟩
    split at q
    · cases rd with
      | tup ht qt => exact key (.inl ⟨rfl, rfl⟩) q rfl
    · cases rd with
      | fl ht qt => exact key (.inr (.inl ⟨rfl, rfl⟩)) q rfl
    · split at q
      · rename_i l e
        cases rd with
        | ref hm => exact key (.inr (.inr ⟨_, rfl, e, rfl⟩)) q rfl
      · exact q.elim
    · exact q.elim
theorem folded_not {x : Expr} {env : PySem.Env} (h : isSet x = false) (v : Value) : foldedSetIterable x env v = pure v := by
  cases x <;> first | rfl | cases h
/-! ### statements -/
def rSet (K : Fg) (cl : Cl) : TSet := fun o i v H Q => ∃ m S d1 d2 d3, RS K cl m H S ∧ RD K m H d1 o ∧ RD K m H d2 i ∧ RD K m H d3 v ∧ setIx d1 d2 d3 S fun S' => ∀ H', Le m H m H' → RS K cl m H' S' → Q H'
theorem set_snd : PSet X (rSet X.K cl) := by
  intro pins s σ H o i v ov iv u Q I ro ri rv ⟨m, S, d1, d2, d3, R, r1, r2, r3, h⟩
  unfold setIx at h
  split at h
  · split at h
    · rename_i n l g
      split at h
      · split at h
        · rename_i j ej
          cases r2
          cases r1 with
          | ref hm =>
            obtain ⟨vs, h1, q⟩ := R.at_ _ _ _ hm g
            refine set_list pins s σ H _ _ v ov iv u Q I ro ri rv ⟨_, vs, _, j, rfl, rfl, h1, by rw [← q.length]; exact ej, ?_⟩
            refine h _ (le_set R hm) (R.set hm ⟨_, upd_same, ?_⟩)
            exact (q.set r3 j).mono (le_set R hm)
        · exact h.elim
      · exact h.elim
    · exact h.elim
  · exact h.elim
theorem assign_sub {o i : Expr} {pos : Pos} {env : PySem.Env} (h : isSlice i = false) : ∀ v, assign (.Subscript o i pos) env v = (do
      let ov ← holding [v] (eval o env)
      let iv ← holding [v, ov] (eval i env)
      standAt pos
      holding [v, ov, iv] (setItem ov iv v)
      release [v, ov, iv] []) := by
  intro v
  cases i <;> first | rfl | cases h
theorem for_snd {D : L2.Ends} {it : It} {t : Tg} {b : Cs} {tb : TS} {σ : L2.St} {H : Hp} (hF : SemMono F) (hb : ∀ D σ H, LS X.K cl (wpCs F b) D σ H → tb D σ H) (h : LS X.K cl (wpC F (.for_ t it b)) D σ H) :
    tFor (lI X.K cl F it) (lG X.K cl t) tb D σ H := by
  obtain ⟨m, ρ, S, R, re, q⟩ := h
  replace q : wpIt F it ρ S (fun l G S1 => wpFor t G (wpCs F b) (upE X.K cl m H D) l ρ S1) noX := q
  refine ⟨m, ρ, S, R, re, wpIt_mono hF it (fun l G S1 q1 m1 H1 J le1 R1 wk => ?_) (fun _ _ z => z) q⟩
  refine ⟨fun i n σ' H' => ∃ m' ρ' S', Le m1 H1 m' H' ∧ RS X.K cl m' H' S' ∧ RE X.K m' H' ρ' σ' ∧ n = (l.drop i).length ∧ wpFor t G (wpCs F b) (upE X.K cl m H D) (l.drop i) ρ' S',
    ⟨_, m1, ρ, S1, Le.refl m1 H1, R1, re.mono le1, rfl, q1⟩, fun i n σ' H' hW => ?_⟩
  obtain ⟨m', ρ', S', le', R', re', en, q'⟩ := hW
  by_cases hi : i < l.length
  · have ed : l.drop i = l[i] :: l.drop (i + 1) := List.drop_eq_getElem_cons hi
    rw [ed] at q' en
    obtain ⟨g, q2⟩ := q'
    obtain ⟨go, yld⟩ := wk.2 m' H' S' i l[i] le' R' g (List.getElem?_eq_getElem hi)
    refine .inr ⟨go, fun σ2 H2 => ∃ m' ρ' S', Le m1 H1 m' H2 ∧ RS X.K cl m' H2 S' ∧ RE X.K m' H2 ρ' σ2 ∧ wpFor t G (wpCs F b) (upE X.K cl m H D) (l.drop (i + 1)) ρ' S', fun σ2 H2 hN => ?_, fun x H2 hx => ?_⟩
    · obtain ⟨m2, ρ2, S2, a1, a2, a3, a4⟩ := hN
      refine ⟨_, ?_, m2, ρ2, S2, a1, a2, a3, rfl, a4⟩
      rw [en, List.length_cons]
      omega
    · obtain ⟨m2, le2, R2, rd⟩ := yld x H2 hx
      split at q2
      · rename_i ρ2 e2
        refine lG_go R2 (re'.mono le2) rd e2 fun m3 H3 σ3 le3 R3 re3 => hb _ _ _ ?_
        have l13 : Le m1 H1 m3 H3 := (le'.trans le2).trans le3
        have l3 : Le m H m3 H3 := le1.trans l13
        refine ⟨m3, ρ2, S', R3, re3, wpCs_mono hF b (K := { upE X.K cl m H D with nx := wpFor t G (wpCs F b) (upE X.K cl m H D) (l.drop (i + 1)), ct := wpFor t G (wpCs F b) (upE X.K cl m H D) (l.drop (i + 1)), bk := (upE X.K cl m H D).nx }) ⟨?_, ?_, ?_, ?_, ?_⟩ q2⟩
        · exact fun ρ4 S4 h4 m4 σ4 H4 le4 R4 re4 => ⟨m4, ρ4, S4, l13.trans le4, R4, re4, h4⟩
        · exact fun d S4 => up_le l3
        · exact fun ρ4 S4 h4 m4 σ4 H4 le4 R4 re4 => h4 m4 σ4 H4 (l3.trans le4) R4 re4
        · exact fun ρ4 S4 h4 m4 σ4 H4 le4 R4 re4 => ⟨m4, ρ4, S4, l13.trans le4, R4, re4, h4⟩
        · exact fun _ _ z => z
      · exact q2.elim
  · refine .inl ⟨?_, ?_⟩
    · rw [List.drop_eq_nil_of_le (by omega)] at q'
      exact wk.1 m' H' S' i le' R' q'.1 (by omega)
    · rw [List.drop_eq_nil_of_le (by omega)] at q'
      exact q'.2 m' σ' H' (le1.trans le') R' re'
theorem whl_snd {D : L2.Ends} {t : E} {b : Cs} {tb : TS} {σ : L2.St} {H : Hp} (hF : SemMono F) (hb : ∀ D σ H, LS X.K cl (wpCs F b) D σ H → tb D σ H) (h : LS X.K cl (wpC F (.whl t b)) D σ H) :
    tWhile (tB (lE X.K cl F t)) tb D σ H := by
  obtain ⟨m, ρ, S, R, re, k, q⟩ := h
  refine ⟨fun n σ' H' => ∃ m' ρ' S', Le m H m' H' ∧ RS X.K cl m' H' S' ∧ RE X.K m' H' ρ' σ' ∧ wpWh (fun ρ S Q => wpE F t ρ S Q noX) (wpCs F b) (upE X.K cl m H D) n ρ' S', ⟨k, m, ρ, S, Le.refl m H, R, re, q⟩, fun n σ' H' hW => ?_⟩
  obtain ⟨m', ρ', S', le', R', re', q'⟩ := hW
  cases n with
  | zero => exact (show False from q').elim
  | succ n =>
    replace q' : wpE F t ρ' S' _ noX := q'
    refine le_step hF t R' re' q' fun d S1 m1 H1 v q le R1 rd re1 => ?_
    have l1 : Le m H m1 H1 := le'.trans le
    split at q
    · refine ⟨true, bl_of rd, (if_pos rfl).mpr ⟨fun σ2 H2 => ∃ m' ρ' S', Le m H m' H2 ∧ RS X.K cl m' H2 S' ∧ RE X.K m' H2 ρ' σ2 ∧ wpWh (fun ρ S Q => wpE F t ρ S Q noX) (wpCs F b) (upE X.K cl m H D) n ρ' S', fun σ2 H2 hN => ⟨n, Nat.lt_succ_self n, hN⟩, hb _ _ _ ?_⟩⟩
      refine ⟨m1, ρ', S1, R1, re1, wpCs_mono hF b (K := { upE X.K cl m H D with nx := wpWh (fun ρ S Q => wpE F t ρ S Q noX) (wpCs F b) (upE X.K cl m H D) n, ct := wpWh (fun ρ S Q => wpE F t ρ S Q noX) (wpCs F b) (upE X.K cl m H D) n, bk := (upE X.K cl m H D).nx }) ⟨?_, ?_, ?_, ?_, ?_⟩ q⟩
      · exact fun ρ4 S4 h4 m4 σ4 H4 le4 R4 re4 => ⟨m4, ρ4, S4, l1.trans le4, R4, re4, h4⟩
      · exact fun d S4 => up_le l1
      · exact fun ρ4 S4 h4 m4 σ4 H4 le4 R4 re4 => h4 m4 σ4 H4 (l1.trans le4) R4 re4
      · exact fun ρ4 S4 h4 m4 σ4 H4 le4 R4 re4 => ⟨m4, ρ4, S4, l1.trans le4, R4, re4, h4⟩
      · exact fun _ _ z => z
    · exact ⟨false, bl_of rd, (if_neg Bool.false_ne_true).mpr (q m1 σ' H1 l1 R1 re1)⟩
    · exact q.elim
mutual
theorem sndC (hF : SemMono F) (ok : SOk c cl F X) : ∀ (a : C) (s : Stmt), chkC c a s = true → PS X s (LS X.K cl (wpC F a))
  | .bad, s, _ => ⟨fun pins s σ H D I ⟨_, _, _, _, _, h⟩ => h.elim⟩
  | .set i e, s, h => by
    unfold chkC at h
    split at h
    · obtain ⟨h123, h4⟩ := and2 h
      obtain ⟨h1, h2, h3⟩ := and3 h123
      have A := (sndE hF ok.x e _ h3).v
      refine PS.mono (ps_set (i := i) ok.x.nd (by rw [ok.x.N]; exact of_decide_eq_true h1) (by rw [ok.x.sc]; exact loc_of h2) A (swaps_not (not_t h4)) (.inl (ok.fn _))) fun D σ H q => ?_
      obtain ⟨m, ρ, S, R, re, q⟩ := q
      refine le_step hF e R re q fun d S1 m1 H1 v q le R1 rd re1 => ?_
      exact q m1 _ H1 le R1 (re1.set rd i)
    · cases h
  | .setIx o i e, s, h => by
    unfold chkC at h
    split at h
    · obtain ⟨h123, h4, h5⟩ := and3 h
      obtain ⟨h1, h2, h3⟩ := and3 h123
      have O := (sndE hF ok.x o _ h1).v
      have I := (sndE hF ok.x i _ h2).v
      have A := (sndE hF ok.x e _ h3).v
      refine PS.mono (ps_asg A (pg_sub O I (set_snd (cl := cl)) (assign_sub (not_t h4))) (sole_not (not_t h5)) rfl rfl) fun D σ H q => ?_
      obtain ⟨m, ρ, S, R, re, q⟩ := q
      refine le_step hF e R re q fun d S1 m1 H1 v q le R1 rd re1 => le_step hF o R1 re1 q fun d2 S2 m2 H2 v2 q2 le2 R2 rd2 re2 => le_step hF i R2 re2 q2 fun d3 S3 m3 H3 v3 q3 le3 R3 rd3 re3 => ?_
      refine ⟨m3, S3, d2, d3, d, R3, rd2.mono le3, rd3, rd.mono (le2.trans le3), setIx_mono (fun S4 z H4 le4 R4 => ?_) q3⟩
      exact z m3 σ H4 (((le.trans le2).trans le3).trans le4) R4 (re3.mono le4)
    · cases h
  | .ret e, s, h => by
    unfold chkC at h
    split at h
    · have A := (sndE hF ok.x e _ h).v
      refine PS.mono (ps_ret A) fun D σ H q => ?_
      obtain ⟨m, ρ, S, R, re, q⟩ := q
      exact ⟨m, ρ, S, R, re, q⟩
    · cases h
  | .ex e, s, h => by
    unfold chkC at h
    split at h
    · obtain ⟨h1, h2⟩ := and2 h
      have A := (sndE hF ok.x e _ h1).v
      refine PS.mono (ps_expr A (swaps_not (not_t h2))) fun D σ H q => ?_
      obtain ⟨m, ρ, S, R, re, q⟩ := q
      refine le_step hF e R re q fun d S1 m1 H1 v q le R1 rd re1 => ?_
      exact q m1 σ H1 le R1 re1
    · cases h
  | .cond t a b, s, h => by
    unfold chkC at h
    split at h
    · obtain ⟨h123, h4⟩ := and2 h
      obtain ⟨h1, h2, h3⟩ := and3 h123
      have T := (sndE hF ok.x t _ h1).t h2
      have A := sndCs hF ok a _ h3
      have B := sndCs hF ok b _ h4
      refine PS.mono (ps_if T A B) fun D σ H q => ?_
      obtain ⟨m, ρ, S, R, re, q⟩ := q
      refine le_step hF t R re q fun d S1 m1 H1 v q le R1 rd re1 => ?_
      split at q
      · exact ⟨true, bl_of rd, (if_pos rfl).mpr ⟨m1, ρ, S1, R1, re1, wpCs_mono hF a (upE_le le) q⟩⟩
      · exact ⟨false, bl_of rd, (if_neg Bool.false_ne_true).mpr ⟨m1, ρ, S1, R1, re1, wpCs_mono hF b (upE_le le) q⟩⟩
      · exact q.elim
    · cases h
  | .whl t b, s, h => by
    unfold chkC at h
    split at h
    · obtain ⟨h1, h2, h3⟩ := and3 h
      exact PS.mono (ps_while ok.own ((sndE hF ok.x t _ h1).t h2) (sndCs hF ok b _ h3)) fun D σ H q => whl_snd hF (fun _ _ _ z => z) q
    · cases h
  | .for_ t it b, s, h => by
    unfold chkC at h
    split at h
    · obtain ⟨h123, h4⟩ := and2 h
      obtain ⟨h1, h2, h3⟩ := and3 h123
      exact PS.mono (ps_for ok.own ok.x.calm (sndIt hF ok.x it _ h2) (sndTg ok t _ h1) (sndCs hF ok b _ h3) (folded_not (not_t h4))) fun D σ H q => for_snd hF (fun _ _ _ z => z) q
    · cases h
theorem sndCs (hF : SemMono F) (ok : SOk c cl F X) : ∀ (a : Cs) (ss : List Stmt), chkCs c a ss = true → PSs X ss (LS X.K cl (wpCs F a))
  | .nil, ss, h => by
    cases ss with
    | nil => exact PSs.mono pss_nil fun D σ H ⟨m, ρ, S, R, re, q⟩ => q m σ H (Le.refl m H) R re
    | cons _ _ => cases h
  | .cons a b, ss, h => by
    cases ss with
    | nil => cases h
    | cons s ss =>
      obtain ⟨h1, h2⟩ := and2 (show (chkC c a s && chkCs c b ss) = true from h)
      have A := sndC hF ok a _ h1
      have B := sndCs hF ok b _ h2
      refine PSs.mono (pss_cons A B) fun D σ H q => ?_
      obtain ⟨m, ρ, S, R, re, q⟩ := q
      refine ⟨m, ρ, S, R, re, wpC_mono hF a (K := { upE X.K cl m H D with nx := fun ρ1 S1 => wpCs F b (upE X.K cl m H D) ρ1 S1 }) ⟨?_, fun _ _ z => z, fun _ _ z => z, fun _ _ z => z, fun _ _ z => z⟩ q⟩
      exact fun ρ1 S1 h1 m1 σ1 H1 le1 R1 re1 => ⟨m1, ρ1, S1, R1, re1, wpCs_mono hF b (upE_le le1) h1⟩
end
end
end Mn

/-! Defs: each keeps the promise that the small language says of its call, at every level. -/
namespace Mn
open PySem PySem.Spec PyProof.Rows L2
/-- a def of the text: its global name, its number, its names by slot, its parameters, what the head says of it -/
structure Ent where
  x : Str
  f : Nat
  N : List Str
  ps : List Str
  d : He.DefD
/-- facts of the module -/
structure Glb (K : Fg) (mg : Str → Option Value) (csts : List (Str × D)) (free : List Str) : Prop where
  csts : ∀ x d, (x, d) ∈ csts → ∃ u v, mg x = some u ∧ RelV v u ∧ ∀ m H, RD K m H d v
  free : ∀ x ∈ free, mg x = none
def fnsOf (tab : List Ent) : List (Str × Nat × Nat) := tab.map fun e => (e.x, e.f, e.ps.length)
def scopeB (N ps : List Str) (sc : Scope) : Bool :=
  (match sc.kind with | .function => true | _ => false) && !sc.isCoroutine && !sc.isGenerator && decide N.Nodup && decide (N.take ps.length = ps) && ps.all (fun x => locB sc x) && sc.names.all fun y => !decide (y.2 = .free)
theorem scope_of {N ps : List Str} {sc : Scope} (h : scopeB N ps sc = true) : FnScope N ps sc := by
  unfold scopeB at h
  obtain ⟨h5, h6, h7⟩ := and3 h
  obtain ⟨h3, h4, h5⟩ := and3 h5
  obtain ⟨h1, h2, h3⟩ := and3 h3
  refine ⟨?_, not_t h2, not_t h3, of_decide_eq_true h4, of_decide_eq_true h5, fun x hx => ?_, fun y hy => ?_⟩
  · split at h1
    · assumption
    · cases h1
  · have := List.all_eq_true.mp h6 x hx
    exact loc_of this
  · have := not_t (List.all_eq_true.mp h7 y hy)
    exact of_decide_eq_false this
structure EntOk (K : Fg) (mg : Str → Option Value) (PP : Prog) (tab : List Ent) (csts : List (Str × D)) (free : List Str) (e : Ent) (fd : FuncData) : Prop where
  fn : FunD K e.d.name e.d.qual e.d.params e.d.body e.d.scope [] [] (He.fAd K e.d.at_) fd
  mg : mg e.x = some (.ref (He.fAd K e.d.at_))
  bind : Binds K fd e.ps []
  sc : scopeB e.N e.ps e.d.scope = true
  body : ∃ g, PP e.f = some g ∧ g.np = e.ps.length ∧ g.n = e.N.length ∧ chkCs ⟨e.N, e.d.scope, fnsOf tab, csts, free⟩ g.body e.d.body = true
theorem re_start {K : Fg} {m : List Addr} {H : Hp} {ds : List D} {vs : List V} (r : RDs K m H ds vs) (n : Nat) : RE K m H (ds.map some ++ List.replicate (n - ds.length) none) (vs.map some ++ List.replicate (n - vs.length) none) := by
  have hl := r.length
  refine ⟨by simp [hl], fun i d e => ?_⟩
  by_cases hi : i < ds.length
  · rw [List.getElem?_append_left (by simpa using hi), List.getElem?_map] at e
    cases q : ds[i]? with
    | none => rw [q] at e; cases e
    | some d' =>
      rw [q] at e
      cases e
      obtain ⟨v, hv, rv⟩ := r.get q
      refine ⟨v, ?_, rv⟩
      rw [List.getElem?_append_left (by rw [List.length_map, ← hl]; exact hi), List.getElem?_map, hv]
      rfl
  · rw [List.getElem?_append_right (by simpa using hi)] at e
    have := List.mem_of_getElem? e
    rw [List.mem_replicate] at this
    cases this.2
theorem fn_all {P : Program} {w : World} {K : Fg} {mg : Str → Option Value} {base : Heap} {cl : Cl} {PP : Prog} {tab : List Ent} {csts : List (Str × D)} {free : List Str} (G : Glb K mg csts free) (hT : ∀ e ∈ tab, ∃ fd, EntOk K mg PP tab csts free e fd) :
    ∀ n, ∀ e ∈ tab, ∀ fd, EntOk K mg PP tab csts free e fd → FnOk P w K mg base CX0 n (He.fAd K e.d.at_) fd e.ps (spOf K cl (callN PP n) e.f e.ps.length)
  | 0, e, he, fd, ek => ⟨fun vs H Q E ⟨_, _, _, _, _, h, _⟩ => h, fun A outer s H args us vs Q E hr h0 hb hv ⟨_, _, _, _, _, _, h⟩ => h.elim⟩
  | n + 1, e, he, fd, ek => by
    have ih := fn_all (P := P) (w := w) (base := base) (cl := cl) G hT n
    have FS := scope_of ek.sc
    refine ek.fn.ok FS (fun vs H Q E ⟨_, _, _, _, _, h, _⟩ => h) fun cdv A outer s H vs Q E hr ⟨m, S, ds, R, rd, hl, h⟩ => ?_
    obtain ⟨g, hg, e1, e2, hc⟩ := ek.body
    unfold callN at h
    rw [hg] at h
    obtain ⟨h1, h2⟩ := h
    refine ⟨LS K cl (wpCs (callN PP n) g.body), PSs.nox ?_, m, startE g ds, S, R, ?_, ?_⟩
    · refine sndCs (callN_mono PP n) (X := (cxOf CX0 P w K mg base e.N e.d.qual e.d.scope (He.fAd K e.d.at_) cdv A outer s H E).nox) ⟨⟨rfl, FS.nd, rfl, rfl, ?_, ?_, G.csts, G.free⟩, fun _ => rfl, rfl⟩ g.body _ hc
      · have := hr.un
        show (A.deeper _).units + 150 < cLine
        omega
      · intro x f ar hx
        obtain ⟨e', he', ex⟩ := List.mem_map.mp hx
        cases ex
        obtain ⟨fd', ek'⟩ := hT e' he'
        exact ⟨n, He.fAd K e'.d.at_, fd', e'.ps, ih e' he' fd' ek', hr, ek'.mg, ek'.fn.kp, ek'.bind⟩
    · unfold startE L2.start
      rw [e2]
      exact re_start rd _
    · refine wpCs_mono (callN_mono PP n) _ (K := rtEnds (up K cl m H Q) noX) ⟨?_, fun _ _ z => z, ?_, ?_, fun _ _ z => z⟩ h2
      · exact fun ρ S h m' σ' H' le R' re' => h m' H' .non le R' .non
      · exact fun _ _ z => z.elim
      · exact fun _ _ z => z.elim
/-- the law's own promise -/
theorem law_sp {K : Fg} {cl : Cl} {F : Sem} {f : Nat} {H : Hp} {a : Addr} {ns : List Int} (hO : Only H) (hS : SqL K H a (ns.map V.int)) (h : F f [.fl (ns.map D.int)] [] (fun d _ => d = .bl true) noX) (hF : SemMono F) :
    spOf K cl F f 1 [.ref a] H (fun v _ => v = .bl true) fun _ _ _ => False := by
  have hp : PersL K H a (ns.map V.int) := by
    rcases hS with (h | ⟨o, h⟩) | h
    · rcases hO a with z | ⟨o, xs, z⟩
      · rw [z] at h; cases h
      · rw [z] at h; cases h
    · exact .inl ⟨o, h⟩
    · exact .inr h
  have hr : ∀ ns : List Int, RDs K [] H (ns.map D.int) (ns.map V.int) := fun ns => by
    induction ns with
    | nil => exact .nil
    | cons n ns ih => exact .cons (.int n) ih
  refine ⟨[], [], [.fl (ns.map D.int)], ⟨rfl, fun i j a h => by simp at h, fun n a o h => by simp at h⟩, .cons (.fl hp (hr ns)) .nil, rfl, hF _ _ _ _ _ _ _ (fun d S q m' H' v le R' rd => ?_) (fun _ _ z => z) h⟩
  subst q
  exact bl_of rd
end Mn

/-! The end of a law: the head's facts, the module's constants. -/
namespace Mn
open PySem PySem.Spec PyProof.Rows L2
def toDv : D → He.Dv
  | .bl b => .bl b
  | .int i => .int i
  | .str x => .str x
  | _ => .non
def scalB : D → Bool
  | .non => true | .bl _ => true | .int _ => true | .str _ => true | _ => false
/-- a constant of the module stands as it is said to -/
def cstOk (K : Fg) (x : Str) : D → Bool
  | .int i => (He.Fa.int x i).ok K
  | .str s => (He.Fa.str x s).ok K
  | .tup l => l.all scalB && (He.Fa.glo x).ok K && He.tupB K x (l.map toDv)
  | _ => false
theorem rds_scal {K : Fg} {m : List Addr} {H : Hp} : ∀ {l : List D}, l.all scalB = true → RDs K m H l ((l.map toDv).map (He.Dv.v K))
  | [], _ => .nil
  | d :: l, h => by
    rw [List.all_cons, Bool.and_eq_true] at h
    refine .cons ?_ (rds_scal h.2)
    cases d <;> first | (cases h.1; done) | constructor
theorem cst_ok {K : Fg} {h : Heap} {mg : Str → Option Value} (X : K.In h) (G : h.Ns mainGlobals mg) {x : Str} {d : D} (c : cstOk K x d = true) : ∃ u v, mg x = some u ∧ RelV v u ∧ ∀ m H, RD K m H d v := by
  cases d with
  | int i =>
    obtain ⟨t, e⟩ := He.int_ok X G (x := x) (i := i) c
    exact ⟨_, .int i, e, ⟨t, rfl⟩, fun m H => .int i⟩
  | str s =>
    obtain ⟨t, e⟩ := He.str_ok X G (x := x) (z := s) c
    exact ⟨_, .str s, e, ⟨t, rfl⟩, fun m H => .str s⟩
  | tup l =>
    obtain ⟨c1, c2, c3⟩ := and3 c
    exact ⟨_, .ref (He.ga K x), He.glo_ok X G c2, rfl, fun m H => .tup (He.tupB_ok c3 H) (rds_scal c1)⟩
  | _ => cases c
def exB (csts : List (Str × D)) (K : Fg) : Bool := csts.all fun p => cstOk K p.1 p.2
theorem glb_of {K : Fg} {h : Heap} {mg : Str → Option Value} (X : K.In h) (G : h.Ns mainGlobals mg) {csts : List (Str × D)} {free : List Str} (c : exB csts K = true) (hf : ∀ x ∈ free, (He.Fa.free x).ok K = true) : Glb K mg csts free :=
  ⟨fun x d hx => cst_ok X G (List.all_eq_true.mp c (x, d) hx), fun x hx => He.free_ok X G (hf x hx)⟩
/-! ### the Hook: the facts by names, and one more Bool -/
def obsM (n : Nat) (fa : List He.Fa) (ex : Fg → Bool) (fn : List He.DefD) (g : Addr → Option Obj) : He.AlD :=
  (ex (He.frG g (He.asD g n)) && (He.obsD fa fn (He.frG g (He.asD g n))).1, (He.obsD fa fn (He.frG g (He.asD g n))).2)
theorem saysM {n : Nat} {fa : List He.Fa} {ex : Fg → Bool} {fn : List He.DefD} {g : Addr → Option Obj} (e : obsM n fa ex fn g = He.valD fn) : ex (He.frG g (He.asD g n)) = true ∧ He.SaysD fa fn (He.frG g (He.asD g n)) := by
  unfold obsM at e
  generalize He.frG g (He.asD g n) = K at e ⊢
  have e1 : (ex K && (He.obsD fa fn K).1) = true := congrArg (fun z : He.AlD => z.1) e
  have e2 : (He.obsD fa fn K).2 = (He.valD fn).2 := by
    have e3 := congrArg (fun z : He.AlD => z.2) e
    exact e3
  obtain ⟨h1, h2⟩ := and2 e1
  exact ⟨h1, Prod.ext h2 e2⟩
def hookM (n : Nat) (fa : List He.Fa) (ex : Fg → Bool) (fn : List He.DefD) : PySem.W.Hook where
  α := He.AlD
  obs := fun s => obsM n fa ex fn s.heap.get?
  val := fun _ => He.valD fn
  says := fun _ h => ∃ K : Fg, K.In h ∧ ex K = true ∧ He.SaysD fa fn K
  of := fun _ _ e => ⟨_, He.frG_in, saysM e⟩
  keeps := fun _ _ _ ⟨K, hK, c⟩ k => ⟨K, PySem.W.Frag.In.keeps hK k, c⟩
theorem obsM_eq {n : Nat} {fa : List He.Fa} {ex : Fg → Bool} {fn : List He.DefD} {g : Addr → Option Obj} {s : Shared} (h : ∀ a, g a = s.heap.get? a) : obsM n fa ex fn g = (hookM n fa ex fn).obs s := by
  have e : g = s.heap.get? := funext h
  rw [e] <;> rfl
def noCl : Cl := fun _ => none
/-- the law's def keeps its promise -/
theorem law_fn {P : Program} {w : World} {K : Fg} {mg : Str → Option Value} {PP : Prog} {tab : List Ent} {csts : List (Str × D)} {free : List Str} (G : Glb K mg csts free) (hT : ∀ e ∈ tab, ∃ fd, EntOk K mg PP tab csts free e fd) (n : Nat) {e : Ent} (he : e ∈ tab) {fd : FuncData} (ek : EntOk K mg PP tab csts free e fd)
    (base : Heap) : FnOk P w K mg base CX0 n (He.fAd K e.d.at_) fd e.ps (spOf K noCl (callN PP n) e.f e.ps.length) := fn_all G hT n e he fd ek
end Mn

/-! Words for proofs over the small language. -/
namespace Mn
open PySem
/-- a for by what holds between its turns -/
theorem for_inv {t : Tg} {G : Store → Prop} {b : Ends → Env → Store → Prop} {K : Ends} (hb : BMono b) (I : Env → Store → Prop) (hG : ∀ ρ S, I ρ S → G S) (hend : ∀ ρ S, I ρ S → K.nx ρ S) : ∀ (l : List D),
    (∀ d ∈ l, ∀ ρ S, I ρ S → ∃ ρ1, t.bind d ρ = some ρ1 ∧ b { K with nx := I, ct := I, bk := K.nx } ρ1 S) → ∀ ρ S, I ρ S → wpFor t G b K l ρ S
  | [], _, ρ, S, h => ⟨hG ρ S h, hend ρ S h⟩
  | d :: r, hs, ρ, S, h => by
    refine ⟨hG ρ S h, ?_⟩
    obtain ⟨ρ1, e, q⟩ := hs d List.mem_cons_self ρ S h
    rw [e]
    exact hb { K with nx := I, ct := I, bk := K.nx } _ _ _ ⟨fun ρ S h => for_inv hb I hG hend r (fun d hd => hs d (List.mem_cons_of_mem _ hd)) ρ S h, fun _ _ z => z, fun _ _ z => z, fun ρ S h => for_inv hb I hG hend r (fun d hd => hs d (List.mem_cons_of_mem _ hd)) ρ S h, fun _ _ z => z⟩ q
theorem bmono {P : Prog} {n : Nat} (b : Cs) : BMono (wpCs (callN P n) b) := fun K K' ρ S h q => wpCs_mono (callN_mono P n) b h q
/-- all but the object at s stays; the store may grow -/
def Fr (s : Nat) (S S' : Store) : Prop := S.length ≤ S'.length ∧ ∀ j, j < S.length → j ≠ s → S'[j]? = S[j]?
theorem Fr.refl (s : Nat) (S : Store) : Fr s S S := ⟨Nat.le_refl _, fun _ _ _ => rfl⟩
theorem Fr.trans {s : Nat} {S S1 S2 : Store} (a : Fr s S S1) (b : Fr s S1 S2) : Fr s S S2 := ⟨Nat.le_trans a.1 b.1, fun j h1 h2 => by rw [b.2 j (Nat.lt_of_lt_of_le h1 a.1) h2, a.2 j h1 h2]⟩
theorem Fr.set {s : Nat} {S : Store} (o : Ob) : Fr s S (S.set s o) := ⟨by rw [List.length_set]; exact Nat.le_refl _, fun j _ h2 => by rw [List.getElem?_set_ne (Ne.symm h2)]⟩
theorem Fr.push {s : Nat} {S : Store} (T : List Ob) : Fr s S (S ++ T) := ⟨by rw [List.length_append]; omega, fun j h1 _ => by rw [List.getElem?_append_left h1]⟩
/-- what is asked of a thing whose type is asked for -/
def okT (S : Store) : D → Prop
  | .ref n => ∃ l, lst? S n = some l
  | _ => True
theorem isL_ok {S : Store} {d : D} (h : okT S d) : ∃ b, isL S d = some b := by
  cases d with
  | ref n =>
    obtain ⟨l, e⟩ := h
    exact ⟨true, by simp [isL, e]⟩
  | _ => exact ⟨_, rfl⟩
theorem lst_lt {S : Store} {n : Nat} {l : List D} (h : lst? S n = some l) : n < S.length ∧ S[n]? = some (.lst l) := by
  unfold lst? at h
  split at h
  · rename_i l' g
    cases h
    exact ⟨(List.getElem?_eq_some_iff.mp g).1, g⟩
  · cases h
theorem lst_of {S : Store} {n : Nat} {l : List D} (h : S[n]? = some (.lst l)) : lst? S n = some l := by
  unfold lst?
  rw [h]
theorem Fr.lst {s n : Nat} {S S' : Store} {l : List D} (f : Fr s S S') (h : lst? S n = some l) (hn : n ≠ s) : lst? S' n = some l := by
  obtain ⟨h1, h2⟩ := lst_lt h
  exact lst_of (by rw [f.2 n h1 hn]; exact h2)
/-! ### numbers -/
theorem Sm.of_le {i : Int} (h1 : -(10 ^ 60) ≤ i) (h2 : i ≤ 10 ^ 60) : Sm i := by
  unfold Sm
  have : i.natAbs ≤ 10 ^ 60 := by omega
  exact Nat.lt_of_le_of_lt this (by decide +kernel)
theorem Sm.of_nat {i : Int} {a : Nat} (h : i.natAbs < 2 ^ a) (ha : a ≤ 4000) : Sm i := Nat.lt_of_lt_of_le h (Nat.pow_le_pow_right (by decide) ha)
end Mn

namespace Mn
open PySem
abbrev f_is_whole : Nat := 0
abbrev f_is_key : Nat := 1
abbrev f_is_item : Nat := 2
abbrev f_law_stir : Nat := 3
abbrev f_law_source : Nat := 4
abbrev f_law_take : Nat := 5
abbrev f_law_one_of : Nat := 6
abbrev f_law_sort : Nat := 7
abbrev f_law_same : Nat := 8
abbrev f_law_whole : Nat := 9
abbrev f_law_odd : Nat := 10
abbrev f_law_key : Nat := 11
abbrev f_law : Nat := 12
def b_is_whole : Fn := ⟨3, 3,
  (.cons (.ret (.and (.blt (.isi .int) (.cons (.v 0) .nil)) (.and (.not (.blt (.isi .bool) (.cons (.v 0) .nil))) (.chn .LtE .LtE (.v 1) (.v 0) (.v 2)))))
    .nil)⟩
def b_is_key : Fn := ⟨1, 1,
  (.cons (.ret (.call f_is_whole (.cons (.v 0) (.cons (.neg (.cst (.int 1000000000000))) (.cons (.cst (.int 1000000000000)) .nil)))))
    .nil)⟩
def b_is_item : Fn := ⟨1, 1,
  (.cons (.ret (.and (.blt (.isi .tuple) (.cons (.v 0) .nil)) (.and (.cmp .Eq (.blt .len (.cons (.v 0) .nil)) (.cst (.int 2))) (.and (.call f_is_key (.cons (.ix (.v 0) (.cst (.int 0))) .nil)) (.call f_is_whole (.cons (.ix (.v 0) (.cst (.int 1))) (.cons (.cst (.int 0)) (.cons (.cst (.int 1000000)) .nil))))))))
    .nil)⟩
def b_law_stir : Fn := ⟨2, 3,
  (.cons (.set 2 (.bin .Mult (.bin .Add (.bin .Add (.bin .Mod (.v 0) (.bin .Pow (.cst (.int 10)) (.cst (.int 60)))) (.bin .Mult (.cst (.int 7919)) (.v 1))) (.cst (.int 1))) (.cst (.int 27182818284590452353602874713527))))
    (.cons (.set 2 (.bin .Mod (.v 2) (.cst (.int 170141183460469231731687303715884105727))))
    (.cons (.ret (.bin .FloorDiv (.bin .Mod (.bin .Pow (.bin .Add (.bin .Pow (.v 2) (.cst (.int 5))) (.bin .Mult (.cst (.int 48271)) (.v 1))) (.cst (.int 3))) (.cst (.int 162259276829213363391578010288127))) (.cst (.int 7))))
    .nil)))⟩
def b_law_source : Fn := ⟨1, 1,
  (.cons (.ret (.lst (.cons (.v 0) (.cons (.v 0) (.cons (.cst (.int 0)) (.cons (.cst (.int 0)) .nil))))))
    .nil)⟩
def b_law_take : Fn := ⟨2, 3,
  (.cons (.setIx (.v 0) (.cst (.int 2)) (.bin .Add (.ix (.v 0) (.cst (.int 2))) (.cst (.int 1))))
    (.cons (.cond (.and (.cmp .GtE (.ix (.v 0) (.cst (.int 0))) (.bin .Pow (.cst (.int 10)) (.cst (.int 18)))) (.cmp .Gt (.ix (.v 0) (.cst (.int 1))) (.cst (.int 0)))) (.cons (.set 2 (.bin .Mod (.ix (.v 0) (.cst (.int 1))) (.v 1))) (.cons (.setIx (.v 0) (.cst (.int 1)) (.bin .FloorDiv (.ix (.v 0) (.cst (.int 1))) (.v 1))) (.cons (.ret (.v 2)) .nil))) .nil)
    (.cons (.ret (.bin .Mod (.call f_law_stir (.cons (.ix (.v 0) (.cst (.int 0))) (.cons (.ix (.v 0) (.cst (.int 2))) .nil))) (.v 1)))
    .nil)))⟩
def b_law_one_of : Fn := ⟨2, 2,
  (.cons (.ret (.ix (.v 1) (.call f_law_take (.cons (.v 0) (.cons (.blt .len (.cons (.v 1) .nil)) .nil)))))
    .nil)⟩
def b_law_sort : Fn := ⟨1, 1,
  (.cons (.cond (.blt (.isi .bool) (.cons (.v 0) .nil)) (.cons (.ret (.cst (.str "truth"))) .nil) .nil)
    (.cons (.cond (.blt (.isi .int) (.cons (.v 0) .nil)) (.cons (.ret (.cst (.str "number"))) .nil) .nil)
    (.cons (.cond (.blt (.isi .tuple) (.cons (.v 0) .nil)) (.cons (.ret (.cst (.str "tuple"))) .nil) .nil)
    (.cons (.ret (.ite (.blt (.isi .list) (.cons (.v 0) .nil)) (.cst (.str "list")) (.cst (.str "other"))))
    .nil))))⟩
def b_law_same : Fn := ⟨2, 4,
  (.cons (.cond (.cmp .NotEq (.call f_law_sort (.cons (.v 0) .nil)) (.call f_law_sort (.cons (.v 1) .nil))) (.cons (.ret (.cst (.bl false))) .nil) .nil)
    (.cons (.cond (.not (.blt (.isi .tl) (.cons (.v 0) .nil))) (.cons (.ret (.cmp .Eq (.v 0) (.v 1))) .nil) .nil)
    (.cons (.cond (.cmp .NotEq (.blt .len (.cons (.v 0) .nil)) (.blt .len (.cons (.v 1) .nil))) (.cons (.ret (.cst (.bl false))) .nil) .nil)
    (.cons (.ret (.cmp .Eq .bad (.lst .nil)))
    .nil))))⟩
def b_law_whole : Fn := ⟨3, 3,
  (.cons (.ret (.and (.blt (.isi .int) (.cons (.v 0) .nil)) (.and (.not (.blt (.isi .bool) (.cons (.v 0) .nil))) (.chn .LtE .LtE (.v 1) (.v 0) (.v 2)))))
    .nil)⟩
def b_law_odd : Fn := ⟨1, 2,
  (.cons (.set 1 (.lst (.cons (.cst .non) (.cons (.cst (.bl true)) (.cons (.cst (.bl false)) (.cons (.cst (.int 0)) (.cons (.neg (.cst (.int 1))) (.cons (.cst (.int 1)) (.cons (.cst (.int 5)) (.cons (.bin .Pow (.cst (.int 10)) (.cst (.int 6))) (.cons (.bin .Add (.bin .Pow (.cst (.int 10)) (.cst (.int 6))) (.cst (.int 1))) (.cons (.bin .Pow (.cst (.int 10)) (.cst (.int 12))) (.cons (.neg (.bin .Pow (.cst (.int 10)) (.cst (.int 12)))) (.cons (.bin .Add (.bin .Pow (.cst (.int 10)) (.cst (.int 12))) (.cst (.int 1))) (.cons (.cst (.str "")) (.cons (.cst (.str "a")) .nil))))))))))))))))
    (.cons (.set 1 (.bin .Add (.v 1) (.lst (.cons (.cst (.str "left")) (.cons (.tup .nil) (.cons (.lst .nil) (.cons (.tup (.cons (.cst (.int 1)) (.cons (.cst (.int 2)) .nil))) (.cons (.tup (.cons (.cst (.bl true)) (.cons (.cst (.int 1)) .nil))) (.cons (.tup (.cons (.cst (.int 1)) (.cons (.cst (.bl true)) .nil))) (.cons (.lst (.cons (.cst (.int 1)) (.cons (.cst (.int 2)) .nil))) (.cons (.tup (.cons (.cst (.int 1)) .nil)) (.cons (.tup (.cons (.cst (.int 1)) (.cons (.cst (.int 2)) (.cons (.cst (.int 3)) .nil)))) (.cons (.tup (.cons (.cst (.str "a")) (.cons (.cst (.int 1)) .nil))) (.cons (.tup (.cons (.cst (.int 1)) (.cons (.neg (.cst (.int 1))) .nil))) .nil))))))))))))))
    (.cons (.set 1 (.bin .Add (.v 1) (.lst (.cons (.tup (.cons (.tup (.cons (.cst (.int 1)) (.cons (.cst (.int 2)) .nil))) (.cons (.tup .nil) (.cons (.tup .nil) .nil)))) (.cons (.tup (.cons (.tup (.cons (.cst (.int 1)) (.cons (.cst (.int 2)) .nil))) (.cons (.tup .nil) .nil))) .nil)))))
    (.cons (.ret (.call f_law_one_of (.cons (.v 0) (.cons (.v 1) .nil))))
    .nil))))⟩
def b_law_key : Fn := ⟨1, 2,
  (.cons (.set 1 (.call f_law_take (.cons (.v 0) (.cons (.cst (.int 4)) .nil))))
    (.cons (.cond (.cmp .Lt (.v 1) (.cst (.int 2))) (.cons (.ret (.call f_law_take (.cons (.v 0) (.cons (.cst (.int 12)) .nil)))) .nil) .nil)
    (.cons (.cond (.cmp .Eq (.v 1) (.cst (.int 2))) (.cons (.ret (.bin .Sub (.call f_law_take (.cons (.v 0) (.cons (.cst (.int 2000)) .nil))) (.cst (.int 1000)))) .nil) .nil)
    (.cons (.ret (.call f_law_one_of (.cons (.v 0) (.cons (.lst (.cons (.bin .Pow (.cst (.int 10)) (.cst (.int 12))) (.cons (.neg (.bin .Pow (.cst (.int 10)) (.cst (.int 12)))) (.cons (.bin .Sub (.bin .Pow (.cst (.int 10)) (.cst (.int 12))) (.cst (.int 1))) (.cons (.cst (.int 0)) (.cons (.neg (.cst (.int 1))) (.cons (.bin .Mult (.cst (.int 7)) (.bin .Pow (.cst (.int 10)) (.cst (.int 11)))) .nil))))))) .nil))))
    .nil))))⟩
def b_law : Fn := ⟨1, 8,
  (.cons (.cond (.cmp .NotEq (.cst (.tup [.str "left", .str "skew", .str "pair", .str "count", .str "cut"])) (.tup (.cons (.cst (.str "left")) (.cons (.cst (.str "skew")) (.cons (.cst (.str "pair")) (.cons (.cst (.str "count")) (.cons (.cst (.str "cut")) .nil))))))) (.cons (.ret (.cst (.bl false))) .nil) .nil)
    (.cons (.for_ (.nm 1) (.seq (.sl (.bin .Add (.lst (.cons (.cst (.int 0)) .nil)) (.v 0)) .no (.cst (.int 20)))) (.cons (.set 2 (.call f_law_source (.cons (.v 1) .nil))) (.cons (.set 3 (.lst (.cons (.call f_law_key (.cons (.v 2) .nil)) (.cons (.call f_law_take (.cons (.v 2) (.cons (.bin .Pow (.cst (.int 10)) (.cst (.int 6))) .nil))) (.cons (.bin .Pow (.cst (.int 10)) (.cst (.int 12))) (.cons (.bin .Add (.bin .Pow (.cst (.int 10)) (.cst (.int 12))) (.cst (.int 1))) (.cons (.neg (.bin .Pow (.cst (.int 10)) (.cst (.int 12)))) (.cons (.bin .Sub (.neg (.bin .Pow (.cst (.int 10)) (.cst (.int 12)))) (.cst (.int 1))) (.cons (.neg (.cst (.int 1))) .nil))))))))) (.cons (.set 3 (.bin .Add (.v 3) (.lst (.cons (.bin .Pow (.cst (.int 10)) (.cst (.int 6))) (.cons (.bin .Add (.bin .Pow (.cst (.int 10)) (.cst (.int 6))) (.cst (.int 1))) (.cons (.call f_law_odd (.cons (.v 2) .nil)) (.cons (.call f_law_odd (.cons (.v 2) .nil)) (.cons (.cst (.bl true)) (.cons (.cst .non) .nil))))))))) (.cons (.for_ (.nm 4) (.seq (.v 3)) (.cons (.cond (.not (.call f_law_same (.cons (.call f_is_key (.cons (.v 4) .nil)) (.cons (.call f_law_whole (.cons (.v 4) (.cons (.neg (.bin .Pow (.cst (.int 10)) (.cst (.int 12)))) (.cons (.bin .Pow (.cst (.int 10)) (.cst (.int 12))) .nil)))) .nil)))) (.cons (.ret (.cst (.bl false))) .nil) .nil) (.cons (.for_ (.nm 5) (.seq (.v 3)) (.cons (.set 6 (.and (.call f_law_whole (.cons (.v 4) (.cons (.neg (.bin .Pow (.cst (.int 10)) (.cst (.int 12)))) (.cons (.bin .Pow (.cst (.int 10)) (.cst (.int 12))) .nil)))) (.call f_law_whole (.cons (.v 5) (.cons (.cst (.int 0)) (.cons (.bin .Pow (.cst (.int 10)) (.cst (.int 6))) .nil)))))) (.cons (.cond (.or (.not (.call f_law_same (.cons (.call f_is_item (.cons (.tup (.cons (.v 4) (.cons (.v 5) .nil))) .nil)) (.cons (.v 6) .nil)))) (.cmp .IsNot (.call f_is_item (.cons (.lst (.cons (.v 4) (.cons (.v 5) .nil))) .nil)) (.cst (.bl false)))) (.cons (.ret (.cst (.bl false))) .nil) .nil) .nil))) .nil))) (.cons (.set 7 (.call f_law_odd (.cons (.v 2) .nil))) (.cons (.cond (.or (.cmp .IsNot (.call f_is_item (.cons (.tup (.cons (.cst (.int 1)) (.cons (.cst (.int 2)) (.cons (.v 7) .nil)))) .nil)) (.cst (.bl false))) (.cmp .IsNot (.call f_is_item (.cons (.tup (.cons (.v 7) .nil)) .nil)) (.cst (.bl false)))) (.cons (.ret (.cst (.bl false))) .nil) .nil) .nil)))))))
    (.cons (.ret (.and (.cmp .Is (.call f_is_item (.cons (.cst .non) .nil)) (.cst (.bl false))) (.and (.cmp .Is (.call f_is_item (.cons (.tup .nil) .nil)) (.cst (.bl false))) (.cmp .Is (.call f_is_item (.cons (.cst (.int 5)) .nil)) (.cst (.bl false))))))
    .nil)))⟩
def PP : Prog := fun f => match f with
  | 0 => some b_is_whole
  | 1 => some b_is_key
  | 2 => some b_is_item
  | 3 => some b_law_stir
  | 4 => some b_law_source
  | 5 => some b_law_take
  | 6 => some b_law_one_of
  | 7 => some b_law_sort
  | 8 => some b_law_same
  | 9 => some b_law_whole
  | 10 => some b_law_odd
  | 11 => some b_law_key
  | 12 => some b_law
  | _ => none
end Mn

namespace Mn
open PySem
theorem seq_of {S : Store} {n : Nat} {l : List D} (h : S[n]? = some (.lst l)) : seq? S (.ref n) = some l := lst_of h
theorem set_at {S : Store} {s : Nat} {o o' : Ob} (h : S[s]? = some o) : (S.set s o')[s]? = some o' := List.getElem?_set_self (List.getElem?_eq_some_iff.mp h).1
theorem stir_ok (n : Nat) (c k : Int) (S : Store) (Q : DK) (X : XK) (h0 : 0 ≤ k) (h1 : k ≤ 1000000) (q : ∀ i, Q (.int i) S) : callN PP (n + 1) f_law_stir [.int c, .int k] S Q X := by
  refine ⟨rfl, ?_⟩
  have hc : 0 ≤ c % (10 ^ 60) ∧ c % (10 ^ 60) < 10 ^ 60 := ⟨Int.emod_nonneg _ (by decide), Int.emod_lt_of_pos _ (by decide)⟩
  have s10 : Sm 10 := Sm.of_le (by decide) (by decide)
  have sk : Sm k := Sm.of_le (by omega) (by omega)
  refine ⟨by decide, by decide, s10, by show (0 : Int) < 10 ^ 60; decide, ?_⟩
  refine ⟨Sm.of_le (by decide) (by decide), sk, ?_⟩
  refine ⟨?_, Sm.of_le (by decide) (by decide), ?_⟩
  · show Sm (c % 10 ^ 60 + 7919 * k + 1)
    refine Sm.of_nat (a := 210) ?_ (by decide)
    omega
  generalize hN : (c % (10 : Int) ^ (60 : Int).toNat + 7919 * k + 1) * 27182818284590452353602874713527 = N
  refine ⟨by decide, ?_⟩
  have hm : 0 ≤ N % 170141183460469231731687303715884105727 ∧ N % 170141183460469231731687303715884105727 < 170141183460469231731687303715884105727 := ⟨Int.emod_nonneg _ (by decide), Int.emod_lt_of_pos _ (by decide)⟩
  generalize hM : N % 170141183460469231731687303715884105727 = M
  rw [hM] at hm
  refine ⟨by decide, by decide, Sm.of_le (by omega) (by omega), Sm.of_le (by decide) (by decide), sk, ?_⟩
  refine ⟨by decide, by decide, ?_, ?_⟩
  · show Sm (M ^ 5 + 48271 * k)
    have b1 : (M ^ 5).natAbs < 2 ^ 640 := by
      rw [Int.natAbs_pow]
      have : M.natAbs < 2 ^ 128 := by omega
      exact Nat.lt_of_lt_of_le (Nat.pow_lt_pow_left this (by decide)) (by decide)
    refine Sm.of_nat (a := 641) ?_ (by decide)
    omega
  exact ⟨by decide, by decide, Sm.of_le (by decide) (by decide), q _⟩
theorem take_ok (n : Nat) (c r k z sz : Int) (s : Nat) (S : Store) (Q : DK) (X : XK) (hs : S[s]? = some (.lst [.int c, .int r, .int k, .int z])) (h0 : 0 ≤ k) (h1 : k < 1000000) (p0 : 0 < sz) (p1 : sz ≤ 10 ^ 60)
    (q : ∀ i r', 0 ≤ i → i < sz → Q (.int i) (S.set s (.lst [.int c, .int r', .int (k + 1), .int z]))) : callN PP (n + 2) f_law_take [.ref s, .int sz] S Q X := by
  refine ⟨rfl, ?_⟩
  have ssz : Sm sz := Sm.of_le (by omega) (by omega)
  conv => whnf
  rw [seq_of hs]
  conv => whnf
  rw [hs]
  conv => whnf
  have hs1 : (S.set s (.lst ([D.int c, .int r, .int k, .int z].set (Int.toNat 2) (.int (k + 1)))))[s]? = some (.lst [.int c, .int r, .int (k + 1), .int z]) := set_at hs
  rw [seq_of hs1]
  refine ⟨by decide, by decide, Sm.of_le (by decide) (by decide), ?_⟩
  have fin : ∀ i, Q (.int (i % sz)) (S.set s (.lst [.int c, .int r, .int (k + 1), .int z])) := fun i => q _ r (Int.emod_nonneg _ (by omega)) (Int.emod_lt_of_pos _ p0)
  have tail : wpCs (callN PP (n + 1)) (.cons (.ret (.bin .Mod (.call f_law_stir (.cons (.ix (.v 0) (.cst (.int 0))) (.cons (.ix (.v 0) (.cst (.int 2))) .nil))) (.v 1))) .nil) (rtEnds Q X) (startE b_law_take [.ref s, .int sz]) (S.set s (.lst ([D.int c, .int r, .int k, .int z].set (Int.toNat 2) (.int (k + 1))))) := by
    conv => whnf
    rw [seq_of hs1]
    conv => whnf
    rw [seq_of hs1]
    exact stir_ok n c (k + 1) _ _ _ (by omega) (by omega) fun i => ⟨p0, fin i⟩
  conv => whnf
  cases decide ((10 : Int) ^ (18 : Int).toNat ≤ c) with
  | false => exact tail
  | true =>
    conv => whnf
    rw [seq_of hs1]
    conv => whnf
    cases decide (0 < r) with
    | false => exact tail
    | true =>
      conv => whnf
      rw [seq_of hs1]
      refine ⟨p0, ?_⟩
      conv => whnf
      rw [seq_of hs1]
      refine ⟨p0, ssz, ?_⟩
      conv => whnf
      rw [hs1]
      conv => whnf
      rw [List.set_set]
      exact q _ (r / sz) (Int.emod_nonneg _ (by omega)) (Int.emod_lt_of_pos _ p0)

/-- where draws come from stands at s, so many were drawn -/
def Src (S : Store) (s : Nat) (k : Int) : Prop := ∃ c r z, S[s]? = some (.lst [.int c, .int r, .int k, .int z])
theorem take_src (n : Nat) (k sz : Int) (s : Nat) (S : Store) (Q : DK) (X : XK) (hs : Src S s k) (h0 : 0 ≤ k) (h1 : k < 1000000) (p0 : 0 < sz) (p1 : sz ≤ 10 ^ 60)
    (q : ∀ i S', 0 ≤ i → i < sz → S'.length = S.length → Fr s S S' → Src S' s (k + 1) → Q (.int i) S') : callN PP (n + 2) f_law_take [.ref s, .int sz] S Q X := by
  obtain ⟨c, r, z, hs⟩ := hs
  exact take_ok n c r k z sz s S Q X hs h0 h1 p0 p1 fun i r' a b => q i _ a b (List.length_set ..) (Fr.set _) ⟨c, r', z, set_at hs⟩
theorem nle {a b : Nat} (h : Nat.ble a b = true := by rfl) : a ≤ b := Nat.le_of_ble_eq_true h
theorem len_of {S : Store} {t : Nat} {l : List D} (h : lst? S t = some l) : len? S (.ref t) = some l.length := by
  unfold len?
  dsimp only
  rw [(lst_lt h).2]
theorem one_of_ok (n : Nat) (k : Int) (s t : Nat) (l : List D) (S : Store) (Q : DK) (X : XK) (hs : Src S s k) (h0 : 0 ≤ k) (h1 : k < 1000000) (ht : lst? S t = some l) (hn : t ≠ s) (hl : 0 < l.length) (hl2 : l.length ≤ 1000)
    (q : ∀ d S', d ∈ l → S'.length = S.length → Fr s S S' → Src S' s (k + 1) → Q d S') : callN PP (n + 3) f_law_one_of [.ref s, .ref t] S Q X := by
  refine ⟨rfl, ?_⟩
  conv => whnf
  rw [len_of ht]
  refine ⟨by show l.length ≤ 1000000; omega, ?_⟩
  refine take_src n k _ s S _ _ hs h0 h1 (by omega) (by omega) fun i S' a b e f hs' => ?_
  conv => whnf
  rw [show seq? S' (.ref t) = some l from f.lst ht hn]
  conv => whnf
  have hi : i.toNat < l.length := by omega
  have e2 : L2.atI l i = some l[i.toNat] := by
    have := L2.atI_nat (xs := l) (j := i.toNat) (v := l[i.toNat]) (List.getElem?_eq_getElem hi)
    rwa [Int.toNat_of_nonneg a] at this
  rw [e2]
  exact q _ S' (List.getElem_mem hi) e f hs'
/-- the last of a store -/
theorem last_lst {S : Store} {l : List D} : lst? (S ++ [.lst l]) S.length = some l := lst_of (by simp)
theorem Src.push {S : Store} {s : Nat} {k : Int} (h : Src S s k) (T : List Ob) : Src (S ++ T) s k := by
  obtain ⟨c, r, z, h⟩ := h
  exact ⟨c, r, z, by rw [List.getElem?_append_left (List.getElem?_eq_some_iff.mp h).1]; exact h⟩
theorem Src.lt {S : Store} {s : Nat} {k : Int} (h : Src S s k) : s < S.length := by
  obtain ⟨c, r, z, h⟩ := h
  exact (List.getElem?_eq_some_iff.mp h).1
theorem key_ok (n : Nat) (k : Int) (s : Nat) (S : Store) (Q : DK) (X : XK) (hs : Src S s k) (h0 : 0 ≤ k) (h1 : k < 999990)
    (q : ∀ i S', Fr s S S' → Src S' s (k + 2) → Q (.int i) S') : callN PP (n + 4) f_law_key [.ref s] S Q X := by
  refine ⟨rfl, ?_⟩
  conv => whnf
  refine take_src (n + 1) k 4 s S _ _ hs h0 (by omega) (by decide) (by decide) fun i S1 a b e1 f1 hs1 => ?_
  conv => whnf
  have ek : k + 1 + 1 = k + 2 := by omega
  cases decide (i < 2) with
  | true =>
    conv => whnf
    exact take_src (n + 1) (k + 1) 12 s S1 _ _ hs1 (by omega) (by omega) (by decide) (by decide) fun j S2 a b e2 f2 hs2 => q j S2 (f1.trans f2) (ek ▸ hs2)
  | false =>
    conv => whnf
    cases (D.int i).sEq (D.int 2) with
    | true =>
      conv => whnf
      exact take_src (n + 1) (k + 1) 2000 s S1 _ _ hs1 (by omega) (by omega) (by decide) (by decide) fun j S2 a b e2 f2 hs2 => q _ S2 (f1.trans f2) (ek ▸ hs2)
    | false =>
      have s10 : Sm 10 := Sm.of_le (by decide) (by decide)
      refine ⟨by decide, by decide, s10, by decide, by decide, s10, by decide, by decide, s10, by decide, by decide, s10, Sm.of_le (by decide) (by decide), Sm.of_le (by decide) (by decide), by decide, ?_⟩
      refine one_of_ok n (k + 1) s S1.length _ _ _ _ (hs1.push _) (by omega) (by omega) last_lst (Nat.ne_of_gt hs1.lt) (by decide) (by decide) fun d S2 hd e2 f2 hs2 => ?_
      have : ∃ i, d = .int i := by
        simp only [List.mem_cons, List.not_mem_nil, or_false] at hd
        rcases hd with h | h | h | h | h | h <;> exact ⟨_, h⟩
      obtain ⟨i, rfl⟩ := this
      exact q i S2 ((f1.trans (Fr.push _)).trans f2) (ek ▸ hs2)
theorem okT.fr {s : Nat} {S S' : Store} {d : D} {k : Int} (h : okT S d) (f : Fr s S S') (hs : Src S' s k) : okT S' d := by
  cases d with
  | ref n =>
    obtain ⟨l, e⟩ := h
    by_cases hn : n = s
    · subst hn
      obtain ⟨c, r, z, hs⟩ := hs
      exact ⟨_, lst_of hs⟩
    · exact ⟨l, f.lst e hn⟩
  | _ => trivial
theorem odd_ok (n : Nat) (k : Int) (s : Nat) (S : Store) (Q : DK) (X : XK) (hs : Src S s k) (h0 : 0 ≤ k) (h1 : k < 999990)
    (q : ∀ d S', okT S' d → Fr s S S' → Src S' s (k + 1) → Q d S') : callN PP (n + 4) f_law_odd [.ref s] S Q X := by
  refine ⟨rfl, ?_⟩
  have s10 : Sm 10 := Sm.of_le (by decide) (by decide)
  refine ⟨by decide, by decide, s10, by decide, by decide, s10, by decide, by decide, s10, by decide, by decide, s10, by decide, by decide, s10, nle, ?_⟩
  refine ⟨nle, nle, nle, nle, nle, nle, nle, nle, nle, nle, nle, ?_⟩
  conv => whnf
  rw [show lq? _ (D.ref S.length) = some _ from lst_of (by simp [List.getElem?_append]; rfl)]
  rw [show lq? _ (D.ref (List.length (_ ++ [_]))) = some _ from last_lst]
  refine ⟨nle, nle, nle, nle, nle, nle, nle, nle, nle, ?_⟩
  conv => whnf
  rw [show lq? (_ ++ [_]) (D.ref (List.length _)) = some _ from lst_of (by rw [List.getElem?_append_left (by simp)]; exact (lst_lt last_lst).2)]
  rw [show lq? _ (D.ref (List.length (_ ++ [_]))) = some _ from last_lst]
  refine ⟨nle, ?_⟩
  refine one_of_ok n k s _ _ _ _ _ (((((((hs.push _).push _).push _).push _).push _).push _).push _) h0 (by omega) last_lst ?_ nle nle fun d S' hd e f hs' => ?_
  · have := hs.lt
    simp
    omega
  · have hf : Fr s S S' := ((((((((Fr.push _).trans (Fr.push _)).trans (Fr.push _)).trans (Fr.push _)).trans (Fr.push _)).trans (Fr.push _)).trans (Fr.push _)).trans f)
    refine q d S' (okT.fr (k := k + 1) ?_ f hs') hf hs'
    have h1 : ∀ (A : Store) (o : Ob) (T : Store) (l : List D), o = .lst l → okT (A ++ [o] ++ T) (.ref A.length) := fun A o T l e => ⟨l, lst_of (by rw [e, List.getElem?_append_left (by simp)]; simp)⟩
    simp only [List.mem_append, List.mem_cons, List.not_mem_nil, or_false] at hd
    repeat' (obtain hd | hd := hd)
    all_goals first | trivial | exact ⟨_, lst_of (by simp [List.getElem?_append]; rfl)⟩
def isWhole (d : D) (lo hi : Int) : Bool := match d with
  | .int i => decide (lo ≤ i) && decide (i ≤ hi)
  | _ => false
theorem whole_gen (f : Nat) (hf : PP f = some b_is_whole) (n : Nat) (d : D) (lo hi : Int) (S : Store) (Q : DK) (X : XK) (h : okT S d) (q : Q (.bl (isWhole d lo hi)) S) : callN PP (n + 1) f [d, .int lo, .int hi] S Q X := by
  unfold callN
  rw [hf]
  refine ⟨rfl, ?_⟩
  cases d with
  | int i =>
    conv => whnf
    unfold isWhole at q
    dsimp only at q
    revert q
    cases decide (lo ≤ i) <;> intro q
    · exact q
    · exact q
  | ref k =>
    obtain ⟨l, e⟩ := h
    conv => whnf
    rw [show isTy S (.ref k) .int = some false by simp [isTy, isL, e]]
    exact q
  | _ => exact q
theorem is_whole_ok (n : Nat) (d : D) (lo hi : Int) (S : Store) (Q : DK) (X : XK) (h : okT S d) (q : Q (.bl (isWhole d lo hi)) S) : callN PP (n + 1) f_is_whole [d, .int lo, .int hi] S Q X := whole_gen _ rfl n d lo hi S Q X h q
theorem law_whole_ok (n : Nat) (d : D) (lo hi : Int) (S : Store) (Q : DK) (X : XK) (h : okT S d) (q : Q (.bl (isWhole d lo hi)) S) : callN PP (n + 1) f_law_whole [d, .int lo, .int hi] S Q X := whole_gen _ rfl n d lo hi S Q X h q
theorem is_key_ok (n : Nat) (d : D) (S : Store) (Q : DK) (X : XK) (h : okT S d) (q : Q (.bl (isWhole d (-1000000000000) 1000000000000)) S) : callN PP (n + 2) f_is_key [d] S Q X :=
  ⟨rfl, is_whole_ok n d _ _ S _ _ h q⟩
def isItem (d : D) : Bool := match d with
  | .tup [a, b] => isWhole a (-1000000000000) 1000000000000 && isWhole b 0 1000000
  | _ => false
/-- a thing whose parts may be asked for -/
def okP (S : Store) : D → Prop
  | .tup l => l.length ≤ 1000 ∧ ∀ d ∈ l, okT S d
  | d => okT S d
theorem is_item_ok (n : Nat) (d : D) (S : Store) (Q : DK) (X : XK) (h : okP S d) (q : Q (.bl (isItem d)) S) : callN PP (n + 3) f_is_item [d] S Q X := by
  refine ⟨rfl, ?_⟩
  cases d with
  | tup l =>
    obtain ⟨h1, h2⟩ := h
    refine ⟨by show l.length ≤ 1000000; omega, ?_⟩
    conv => whnf
    cases l with
    | nil => exact q
    | cons a l =>
      cases l with
      | nil => exact q
      | cons b l =>
        cases l with
        | cons c l =>
          have e : ((D.int ((a :: b :: c :: l).length : Int)).sEq (D.int 2)) = false := by
            show ((((a :: b :: c :: l).length : Nat) : Int) == 2) = false
            simp
            omega
          rw [e]
          exact q
        | nil =>
          conv => whnf
          refine is_key_ok n a S _ _ (h2 a (by simp)) ?_
          conv => whnf
          unfold isItem at q
          dsimp only at q
          revert q
          cases isWhole a (-1000000000000) 1000000000000 <;> intro q
          · exact q
          · exact is_whole_ok (n + 1) b _ _ S _ _ (h2 b (by simp)) q
  | ref k =>
    obtain ⟨l, e⟩ := h
    conv => whnf
    rw [show isTy S (.ref k) .tuple = some false by simp [isTy, isL, e]]
    exact q
  | _ => exact q
theorem sort_bl (n : Nat) (b : Bool) (S : Store) (Q : DK) (X : XK) (q : Q (.str "truth") S) : callN PP (n + 1) f_law_sort [.bl b] S Q X := ⟨rfl, q⟩
theorem same_bl (n : Nat) (a : Bool) (S : Store) (Q : DK) (X : XK) (q : Q (.bl true) S) : callN PP (n + 2) f_law_same [.bl a, .bl a] S Q X := by
  refine ⟨rfl, ?_⟩
  refine sort_bl n a S _ _ (sort_bl n a S _ _ ?_)
  conv => whnf
  rw [show (D.bl a).sEq (D.bl a) = true from by cases a <;> rfl]
  exact q
theorem source_ok (n : Nat) (c : Int) (S : Store) (Q : DK) (X : XK) (q : Q (.ref S.length) (S ++ [.lst [.int c, .int c, .int 0, .int 0]])) : callN PP (n + 1) f_law_source [.int c] S Q X := ⟨rfl, nle, q⟩
theorem mem_cut {l : List D} {a b : Option Int} {d : D} (h : d ∈ cut l a b) : d ∈ l := by
  unfold cut at h
  exact List.mem_of_mem_drop (List.mem_of_mem_take h)
theorem law_ok (n : Nat) (ns : List Int) (hn : ns.length ≤ 63) : callN PP (n + 6) f_law [.fl (ns.map D.int)] [] (fun d _ => d = .bl true) noX := by
  refine ⟨rfl, ?_⟩
  refine ⟨nle, .tuple [.str "left", .str "skew", .str "pair", .str "count", .str "cut"], .tuple [.str "left", .str "skew", .str "pair", .str "count", .str "cut"], .tup (.cons (.str _) (.cons (.str _) (.cons (.str _) (.cons (.str _) (.cons (.str _) .nil))))), .tup (.cons (.str _) (.cons (.str _) (.cons (.str _) (.cons (.str _) (.cons (.str _) .nil))))), by decide +kernel, by decide +kernel, by decide +kernel, ?_⟩
  rw [show PyData.eqv (.tuple [.str "left", .str "skew", .str "pair", .str "count", .str "cut"]) (.tuple [.str "left", .str "skew", .str "pair", .str "count", .str "cut"]) = true by decide +kernel]
  refine ⟨nle, ?_⟩
  refine ⟨by show ([D.int 0].length + (ns.map D.int).length) ≤ 1000000; simp; omega, ?_⟩
  conv => whnf
  refine for_inv (bmono _) (fun ρ S => ∃ x1 x2 x3 x4 x5 x6 x7, ρ = [some (.fl (ns.map D.int)), x1, x2, x3, x4, x5, x6, x7] ∧ lst? S 2 = some (cut ([D.int 0] ++ ns.map D.int) none (some 20))) ?_ ?_ _ ?_ _ _ ?_
  · rintro ρ S ⟨x1, x2, x3, x4, x5, x6, x7, rfl, h⟩
    exact h
  · rintro ρ S ⟨x1, x2, x3, x4, x5, x6, x7, rfl, h⟩
    refine is_item_ok (n + 2) .non S _ _ trivial ?_
    refine ⟨nle, is_item_ok (n + 2) (.tup []) S _ _ ⟨nle, fun d hd => by cases hd⟩ ?_⟩
    conv => whnf
    exact is_item_ok (n + 2) (.int 5) S _ _ trivial rfl
  · rintro d hd ρ S ⟨x1, x2, x3, x4, x5, x6, x7, rfl, h⟩
    obtain ⟨c, rfl⟩ : ∃ c, d = .int c := by
      have := mem_cut hd
      simp at this
      rcases this with h | ⟨c, _, h⟩
      · exact ⟨_, h⟩
      · exact ⟨c, h.symm⟩
    refine ⟨_, rfl, ?_⟩
    refine source_ok (n + 4) c S _ _ ?_
    have hs1 : Src (S ++ [Ob.lst [D.int c, .int c, .int 0, .int 0]]) S.length 0 := ⟨c, c, 0, by simp⟩
    have f0 : Fr S.length S (S ++ [Ob.lst [D.int c, .int c, .int 0, .int 0]]) := Fr.push _
    have s10 : Sm 10 := Sm.of_le (by decide) (by decide)
    conv => whnf
    refine key_ok (n + 1) 0 S.length _ _ _ hs1 (by decide) (by decide) fun i1 S2 f2 hs2 => ?_
    refine ⟨by decide, by decide, s10, ?_⟩
    refine take_src (n + 3) 2 (10 ^ (6 : Int).toNat) S.length S2 _ _ hs2 (by decide) (by decide) (by decide) (by decide) fun i2 S3 _ _ _ f3 hs3 => ?_
    refine ⟨by decide, by decide, s10, by decide, by decide, s10, by decide, by decide, s10, by decide, by decide, s10, nle, ?_⟩
    refine ⟨by decide, by decide, s10, by decide, by decide, s10, ?_⟩
    refine odd_ok (n + 1) 3 S.length _ _ _ (hs3.push _) (by decide) (by decide) fun d1 S4 ok1 f4 hs4 => ?_
    conv => whnf
    refine odd_ok (n + 1) 4 S.length _ _ _ hs4 (by decide) (by decide) fun d2 S5 ok2 f5 hs5 => ?_
    refine ⟨nle, ?_⟩
    conv => whnf
    have ls3 : S.length < S3.length := hs3.lt
    have g3 := f5.lst (f4.lst (last_lst (S := S3)) (Nat.ne_of_gt ls3)) (Nat.ne_of_gt ls3)
    rw [show lq? (S5 ++ _) (D.ref S3.length) = some _ from lst_of (by rw [List.getElem?_append_left (lst_lt g3).1]; exact (lst_lt g3).2)]
    rw [show lq? _ (D.ref S5.length) = some _ from last_lst]
    refine ⟨nle, ?_⟩
    conv => whnf
    rw [last_lst]
    refine (show wpFor _ _ _ _ _ _ _ from ?_)
    generalize hL : ([_, _, _, _, _, _, _] ++ [_, _, _, _, _, _] : List D) = L
    have hL2 : ∀ d ∈ L, okT S5 d := by
      subst hL
      intro d hd
      simp only [List.mem_append, List.mem_cons, List.not_mem_nil, or_false] at hd
      repeat' (obtain hd | hd := hd)
      all_goals first | trivial | exact ok2 | exact okT.fr ok1 f5 hs5
    generalize hT : List.length (S5 ++ [_]) = t
    have ht : t ≠ S.length := by
      subst hT
      have := hs5.lt
      simp
      omega
    have g6 : ∃ T, lst? (S5 ++ T ++ [.lst L]) t = some L ∧ True := ⟨_, by subst hT; exact last_lst, trivial⟩
    refine for_inv (bmono _) (fun ρ S' => ∃ x4 x5 x6, ρ = [some (.fl (ns.map D.int)), some (.int c), some (.ref S.length), some (.ref t), x4, x5, x6, x7] ∧ lst? S' t = some L ∧ (∀ d ∈ L, okT S' d) ∧ Src S' S.length 5 ∧ Fr S.length S S') ?_ ?_ _ ?_ _ _ ?_
    · rintro ρ S' ⟨x4, x5, x6, rfl, h1, h2, h3, h4⟩
      exact h1
    · rintro ρ S' ⟨x4, x5, x6, rfl, h1, h2, h3, h4⟩
      conv => whnf
      refine odd_ok (n + 1) 5 S.length S' _ _ h3 (by decide) (by decide) fun d S7 okd f7 hs7 => ?_
      refine ⟨nle, is_item_ok (n + 2) _ S7 _ _ ⟨nle, fun e he => ?_⟩ ?_⟩
      · simp only [List.mem_cons, List.not_mem_nil, or_false] at he
        repeat' (obtain he | he := he)
        all_goals first | trivial | exact okd
      refine ⟨nle, is_item_ok (n + 2) _ S7 _ _ ⟨nle, fun e he => ?_⟩ ?_⟩
      · simp only [List.mem_cons, List.not_mem_nil, or_false] at he
        subst he
        exact okd
      exact ⟨_, _, _, _, _, _, _, rfl, (h4.trans f7).lst h (by have := (lst_lt h).1; omega)⟩
    · rintro one hone ρ S' ⟨x4, x5, x6, rfl, h1, h2, h3, h4⟩
      refine ⟨_, rfl, ?_⟩
      conv => whnf
      refine is_key_ok (n + 3) one S' _ _ (h2 _ hone) ?_
      refine ⟨by decide, by decide, s10, by decide, by decide, s10, ?_⟩
      refine law_whole_ok (n + 4) one _ _ S' _ _ (h2 _ hone) ?_
      refine same_bl (n + 3) _ S' _ _ ?_
      conv => whnf
      rw [h1]
      refine (show wpFor _ _ _ _ _ _ _ from ?_)
      refine for_inv (bmono _) (fun ρ S' => ∃ x5 x6, ρ = [some (.fl (ns.map D.int)), some (.int c), some (.ref S.length), some (.ref t), some one, x5, x6, x7] ∧ lst? S' t = some L ∧ (∀ d ∈ L, okT S' d) ∧ Src S' S.length 5 ∧ Fr S.length S S') ?_ ?_ _ ?_ _ _ ?_
      · rintro ρ S' ⟨x5, x6, rfl, h1, h2, h3, h4⟩
        exact h1
      · rintro ρ S' ⟨x5, x6, rfl, h1, h2, h3, h4⟩
        exact ⟨_, _, _, rfl, h1, h2, h3, h4⟩
      · rintro other hother ρ S' ⟨x5, x6, rfl, h1, h2, h3, h4⟩
        refine ⟨_, rfl, ?_⟩
        refine ⟨by decide, by decide, s10, by decide, by decide, s10, ?_⟩
        refine law_whole_ok (n + 4) one _ _ S' _ _ (h2 _ hone) ?_
        have okI : okP S' (.tup [one, other]) := ⟨nle, fun e he => by
          simp only [List.mem_cons, List.not_mem_nil, or_false] at he
          repeat' (obtain he | he := he)
          all_goals first | exact h2 _ hone | exact h2 _ hother⟩
        have okL : okP (S' ++ [.lst [one, other]]) (.ref S'.length) := ⟨_, last_lst⟩
        have inv : ∃ x5 x6, ([some (.fl (ns.map D.int)), some (.int c), some (.ref S.length), some (.ref t), some one, some other, some (D.bl (isItem (.tup [one, other]))), x7] : Env) = [some (.fl (ns.map D.int)), some (.int c), some (.ref S.length), some (.ref t), some one, x5, x6, x7] ∧ lst? (S' ++ [.lst [one, other]]) t = some L ∧ (∀ d ∈ L, okT (S' ++ [.lst [one, other]]) d) ∧ Src (S' ++ [.lst [one, other]]) S.length 5 ∧ Fr S.length S (S' ++ [.lst [one, other]]) :=
          ⟨_, _, rfl, (Fr.push (s := S.length) _).lst h1 ht, fun d hd => okT.fr (h2 d hd) (Fr.push _) (h3.push _), h3.push _, h4.trans (Fr.push _)⟩
        cases hb : isWhole one (-(10 ^ (12 : Int).toNat)) (10 ^ (12 : Int).toNat) with
        | true =>
          refine ⟨by decide, by decide, s10, ?_⟩
          refine law_whole_ok (n + 4) other _ _ S' _ _ (h2 _ hother) ?_
          have eb : isItem (.tup [one, other]) = isWhole other 0 (10 ^ (6 : Int).toNat) := by
            show (isWhole one (-(10 ^ (12 : Int).toNat)) (10 ^ (12 : Int).toNat) && isWhole other 0 (10 ^ (6 : Int).toNat)) = _
            rw [hb, Bool.true_and]
          rw [eb] at inv
          refine ⟨nle, is_item_ok (n + 2) _ S' _ _ okI ?_⟩
          rw [eb]
          refine same_bl (n + 3) _ S' _ _ ?_
          refine ⟨nle, is_item_ok (n + 2) _ _ _ _ okL ?_⟩
          exact inv
        | false =>
          have eb : isItem (.tup [one, other]) = false := by
            show (isWhole one (-(10 ^ (12 : Int).toNat)) (10 ^ (12 : Int).toNat) && isWhole other 0 (10 ^ (6 : Int).toNat)) = _
            rw [hb, Bool.false_and]
          rw [eb] at inv
          refine ⟨nle, is_item_ok (n + 2) _ S' _ _ okI ?_⟩
          rw [eb]
          refine same_bl (n + 3) _ S' _ _ ?_
          refine ⟨nle, is_item_ok (n + 2) _ _ _ _ okL ?_⟩
          exact inv
      · exact ⟨_, _, rfl, h1, h2, h3, h4⟩
    · subst hT
      exact ⟨_, _, _, rfl, last_lst, fun d hd => okT.fr (okT.fr (hL2 d hd) (Fr.push _) (hs5.push _)) (Fr.push _) ((hs5.push _).push _), (hs5.push _).push _, ((((((f0.trans f2).trans f3).trans (Fr.push _)).trans f4).trans f5).trans (Fr.push _)).trans (Fr.push _)⟩
  · exact ⟨_, _, _, _, _, _, _, rfl, rfl⟩
end Mn

namespace Mn
open PySem PySem.Spec PyProof.Rows L2
def tp (i : Nat) : Stmt := PySem.Challenge.pw_heapwright_k01_keys_and_items.main.body.getD i (.Pass ⟨0, 0, 0, 0⟩)
def csts : List (Str × D) := [("KINDS", .tup [.str "left", .str "skew", .str "pair", .str "count", .str "cut"]), ("MOST_KEY", .int 1000000000000), ("MOST_TICKET", .int 1000000)]
def free : List Str := (["bool", "int", "isinstance", "len", "list", "tuple"] : List Str)
def d_0 : He.DefD := ⟨("is_whole", none), "is_whole", "is_whole", defArgs (tp 4), defBody (tp 4), defScope (tp 4), [], []⟩
def e_0 : Ent := ⟨"is_whole", f_is_whole, (["thing", "least", "most"] : List Str), (["thing", "least", "most"] : List Str), d_0⟩
def d_1 : He.DefD := ⟨("is_key", none), "is_key", "is_key", defArgs (tp 5), defBody (tp 5), defScope (tp 5), [], []⟩
def e_1 : Ent := ⟨"is_key", f_is_key, (["thing"] : List Str), (["thing"] : List Str), d_1⟩
def d_2 : He.DefD := ⟨("is_item", none), "is_item", "is_item", defArgs (tp 6), defBody (tp 6), defScope (tp 6), [], []⟩
def e_2 : Ent := ⟨"is_item", f_is_item, (["thing"] : List Str), (["thing"] : List Str), d_2⟩
def d_3 : He.DefD := ⟨("_law_stir", none), "_law_stir", "_law_stir", defArgs (tp 8), defBody (tp 8), defScope (tp 8), [], []⟩
def e_3 : Ent := ⟨"_law_stir", f_law_stir, (["cell", "k", "number"] : List Str), (["cell", "k"] : List Str), d_3⟩
def d_4 : He.DefD := ⟨("_law_source", none), "_law_source", "_law_source", defArgs (tp 9), defBody (tp 9), defScope (tp 9), [], []⟩
def e_4 : Ent := ⟨"_law_source", f_law_source, (["cell"] : List Str), (["cell"] : List Str), d_4⟩
def d_5 : He.DefD := ⟨("_law_take", none), "_law_take", "_law_take", defArgs (tp 10), defBody (tp 10), defScope (tp 10), [], []⟩
def e_5 : Ent := ⟨"_law_take", f_law_take, (["source", "size", "found"] : List Str), (["source", "size"] : List Str), d_5⟩
def d_6 : He.DefD := ⟨("_law_one_of", none), "_law_one_of", "_law_one_of", defArgs (tp 11), defBody (tp 11), defScope (tp 11), [], []⟩
def e_6 : Ent := ⟨"_law_one_of", f_law_one_of, (["source", "some"] : List Str), (["source", "some"] : List Str), d_6⟩
def d_7 : He.DefD := ⟨("_law_sort", none), "_law_sort", "_law_sort", defArgs (tp 12), defBody (tp 12), defScope (tp 12), [], []⟩
def e_7 : Ent := ⟨"_law_sort", f_law_sort, (["thing"] : List Str), (["thing"] : List Str), d_7⟩
def d_8 : He.DefD := ⟨("_law_same", none), "_law_same", "_law_same", defArgs (tp 13), defBody (tp 13), defScope (tp 13), [], []⟩
def e_8 : Ent := ⟨"_law_same", f_law_same, (["told", "due", "k", "part"] : List Str), (["told", "due"] : List Str), d_8⟩
def d_9 : He.DefD := ⟨("_law_whole", none), "_law_whole", "_law_whole", defArgs (tp 14), defBody (tp 14), defScope (tp 14), [], []⟩
def e_9 : Ent := ⟨"_law_whole", f_law_whole, (["thing", "least_one", "most_one"] : List Str), (["thing", "least_one", "most_one"] : List Str), d_9⟩
def d_10 : He.DefD := ⟨("_law_odd", none), "_law_odd", "_law_odd", defArgs (tp 15), defBody (tp 15), defScope (tp 15), [], []⟩
def e_10 : Ent := ⟨"_law_odd", f_law_odd, (["source", "some"] : List Str), (["source"] : List Str), d_10⟩
def d_11 : He.DefD := ⟨("_law_key", none), "_law_key", "_law_key", defArgs (tp 16), defBody (tp 16), defScope (tp 16), [], []⟩
def e_11 : Ent := ⟨"_law_key", f_law_key, (["source", "way"] : List Str), (["source"] : List Str), d_11⟩
def d_12 : He.DefD := ⟨("law", none), "law", "law", defArgs (tp 17), defBody (tp 17), defScope (tp 17), [], []⟩
def e_12 : Ent := ⟨"law", f_law, (["script", "cell", "source", "things", "one", "other", "due", "odd"] : List Str), (["script"] : List Str), d_12⟩
def dd : List He.DefD := [d_0, d_1, d_2, d_3, d_4, d_5, d_6, d_7, d_8, d_9, d_10, d_11, d_12]
def tab : List Ent := [e_0, e_1, e_2, e_3, e_4, e_5, e_6, e_7, e_8, e_9, e_10, e_11, e_12]
def fa : List He.Fa := dd.map (fun d => He.Fa.glo d.at_.1) ++ free.map He.Fa.free
theorem chk_0 : (scopeB e_0.N e_0.ps e_0.d.scope && (chkCs ⟨e_0.N, e_0.d.scope, fnsOf tab, csts, free⟩ b_is_whole.body e_0.d.body)) = true := by decide +kernel
theorem chk_1 : (scopeB e_1.N e_1.ps e_1.d.scope && (chkCs ⟨e_1.N, e_1.d.scope, fnsOf tab, csts, free⟩ b_is_key.body e_1.d.body)) = true := by decide +kernel
theorem chk_2 : (scopeB e_2.N e_2.ps e_2.d.scope && (chkCs ⟨e_2.N, e_2.d.scope, fnsOf tab, csts, free⟩ b_is_item.body e_2.d.body)) = true := by decide +kernel
theorem chk_3 : (scopeB e_3.N e_3.ps e_3.d.scope && (chkCs ⟨e_3.N, e_3.d.scope, fnsOf tab, csts, free⟩ b_law_stir.body e_3.d.body)) = true := by decide +kernel
theorem chk_4 : (scopeB e_4.N e_4.ps e_4.d.scope && (chkCs ⟨e_4.N, e_4.d.scope, fnsOf tab, csts, free⟩ b_law_source.body e_4.d.body)) = true := by decide +kernel
theorem chk_5 : (scopeB e_5.N e_5.ps e_5.d.scope && (chkCs ⟨e_5.N, e_5.d.scope, fnsOf tab, csts, free⟩ b_law_take.body e_5.d.body)) = true := by decide +kernel
theorem chk_6 : (scopeB e_6.N e_6.ps e_6.d.scope && (chkCs ⟨e_6.N, e_6.d.scope, fnsOf tab, csts, free⟩ b_law_one_of.body e_6.d.body)) = true := by decide +kernel
theorem chk_7 : (scopeB e_7.N e_7.ps e_7.d.scope && (chkCs ⟨e_7.N, e_7.d.scope, fnsOf tab, csts, free⟩ b_law_sort.body e_7.d.body)) = true := by decide +kernel
theorem chk_8 : (scopeB e_8.N e_8.ps e_8.d.scope && (chkCs ⟨e_8.N, e_8.d.scope, fnsOf tab, csts, free⟩ b_law_same.body e_8.d.body)) = true := by decide +kernel
theorem chk_9 : (scopeB e_9.N e_9.ps e_9.d.scope && (chkCs ⟨e_9.N, e_9.d.scope, fnsOf tab, csts, free⟩ b_law_whole.body e_9.d.body)) = true := by decide +kernel
theorem chk_10 : (scopeB e_10.N e_10.ps e_10.d.scope && (chkCs ⟨e_10.N, e_10.d.scope, fnsOf tab, csts, free⟩ b_law_odd.body e_10.d.body)) = true := by decide +kernel
theorem chk_11 : (scopeB e_11.N e_11.ps e_11.d.scope && (chkCs ⟨e_11.N, e_11.d.scope, fnsOf tab, csts, free⟩ b_law_key.body e_11.d.body)) = true := by decide +kernel
theorem chk_12 : (scopeB e_12.N e_12.ps e_12.d.scope && (chkCs ⟨e_12.N, e_12.d.scope, fnsOf tab, csts, free⟩ b_law.body e_12.d.body)) = true := by decide +kernel
abbrev RR : PySem.W.OpenRow := PySem.W.OpenLaw.row PySem.Challenge.rw_heapwright_k01_keys_and_items
abbrev hk : PySem.W.Hook := hookM 5 fa (exB csts) dd
def ob (s : PySem.W.SharedT) : He.AlD := obsM 5 fa (exB csts) dd (HandSHeadRun.getT s)
theorem ob_eq (s : PySem.W.SharedT) : ob s = hk.obs s.abs := obsM_eq (HandSHeadRun.getT_eq s)
def loose : List PySem.Str := (["KINDS", "MOST_KEY", "MOST_TICKET", "is_whole", "is_key", "is_item", "_law_stir", "_law_source", "_law_take", "_law_one_of", "_law_sort", "_law_same", "_law_whole", "_law_odd", "_law_key"] : List Str)
theorem run (w : World) : HandSHeadRun.RunEq RR (PySem.W.view RR.prog [17]) hk ob 4000 loose w := by
  intro os
  kernel_rfl
theorem fa_glo {d : He.DefD} (h : d ∈ dd) : He.Fa.glo d.at_.1 ∈ fa := List.mem_append_left _ (List.mem_map_of_mem h)
theorem fa_free {x : Str} (h : x ∈ free) : He.Fa.free x ∈ fa := List.mem_append_right _ (List.mem_map_of_mem h)
theorem ent_0 {K : Fg} {h : Heap} {mg : Str → Option Value} (X : K.In h) (G : h.Ns mainGlobals mg) (c : He.SaysD fa dd K) : ∃ fd, EntOk K mg PP tab csts free e_0 fd := by
  obtain ⟨fd, F⟩ := c.def_ 0 (d := d_0) rfl
  obtain ⟨k1, k2⟩ := and2 chk_0
  have g : (He.Fa.glo d_0.at_.1).ok K = true := c.fact 0 (f := He.Fa.glo d_0.at_.1) rfl
  refine ⟨fd, F, He.glo_ok X G g, FunD.bindsN F fun _ _ _ _ _ _ us hl => ?_, k1, b_is_whole, rfl, rfl, rfl, k2⟩
  match us, hl with
  | [_, _, _], _ => rfl
theorem ent_1 {K : Fg} {h : Heap} {mg : Str → Option Value} (X : K.In h) (G : h.Ns mainGlobals mg) (c : He.SaysD fa dd K) : ∃ fd, EntOk K mg PP tab csts free e_1 fd := by
  obtain ⟨fd, F⟩ := c.def_ 1 (d := d_1) rfl
  obtain ⟨k1, k2⟩ := and2 chk_1
  have g : (He.Fa.glo d_1.at_.1).ok K = true := c.fact 1 (f := He.Fa.glo d_1.at_.1) rfl
  refine ⟨fd, F, He.glo_ok X G g, FunD.bindsN F fun _ _ _ _ _ _ us hl => ?_, k1, b_is_key, rfl, rfl, rfl, k2⟩
  match us, hl with
  | [_], _ => rfl
theorem ent_2 {K : Fg} {h : Heap} {mg : Str → Option Value} (X : K.In h) (G : h.Ns mainGlobals mg) (c : He.SaysD fa dd K) : ∃ fd, EntOk K mg PP tab csts free e_2 fd := by
  obtain ⟨fd, F⟩ := c.def_ 2 (d := d_2) rfl
  obtain ⟨k1, k2⟩ := and2 chk_2
  have g : (He.Fa.glo d_2.at_.1).ok K = true := c.fact 2 (f := He.Fa.glo d_2.at_.1) rfl
  refine ⟨fd, F, He.glo_ok X G g, FunD.bindsN F fun _ _ _ _ _ _ us hl => ?_, k1, b_is_item, rfl, rfl, rfl, k2⟩
  match us, hl with
  | [_], _ => rfl
theorem ent_3 {K : Fg} {h : Heap} {mg : Str → Option Value} (X : K.In h) (G : h.Ns mainGlobals mg) (c : He.SaysD fa dd K) : ∃ fd, EntOk K mg PP tab csts free e_3 fd := by
  obtain ⟨fd, F⟩ := c.def_ 3 (d := d_3) rfl
  obtain ⟨k1, k2⟩ := and2 chk_3
  have g : (He.Fa.glo d_3.at_.1).ok K = true := c.fact 3 (f := He.Fa.glo d_3.at_.1) rfl
  refine ⟨fd, F, He.glo_ok X G g, FunD.bindsN F fun _ _ _ _ _ _ us hl => ?_, k1, b_law_stir, rfl, rfl, rfl, k2⟩
  match us, hl with
  | [_, _], _ => rfl
theorem ent_4 {K : Fg} {h : Heap} {mg : Str → Option Value} (X : K.In h) (G : h.Ns mainGlobals mg) (c : He.SaysD fa dd K) : ∃ fd, EntOk K mg PP tab csts free e_4 fd := by
  obtain ⟨fd, F⟩ := c.def_ 4 (d := d_4) rfl
  obtain ⟨k1, k2⟩ := and2 chk_4
  have g : (He.Fa.glo d_4.at_.1).ok K = true := c.fact 4 (f := He.Fa.glo d_4.at_.1) rfl
  refine ⟨fd, F, He.glo_ok X G g, FunD.bindsN F fun _ _ _ _ _ _ us hl => ?_, k1, b_law_source, rfl, rfl, rfl, k2⟩
  match us, hl with
  | [_], _ => rfl
theorem ent_5 {K : Fg} {h : Heap} {mg : Str → Option Value} (X : K.In h) (G : h.Ns mainGlobals mg) (c : He.SaysD fa dd K) : ∃ fd, EntOk K mg PP tab csts free e_5 fd := by
  obtain ⟨fd, F⟩ := c.def_ 5 (d := d_5) rfl
  obtain ⟨k1, k2⟩ := and2 chk_5
  have g : (He.Fa.glo d_5.at_.1).ok K = true := c.fact 5 (f := He.Fa.glo d_5.at_.1) rfl
  refine ⟨fd, F, He.glo_ok X G g, FunD.bindsN F fun _ _ _ _ _ _ us hl => ?_, k1, b_law_take, rfl, rfl, rfl, k2⟩
  match us, hl with
  | [_, _], _ => rfl
theorem ent_6 {K : Fg} {h : Heap} {mg : Str → Option Value} (X : K.In h) (G : h.Ns mainGlobals mg) (c : He.SaysD fa dd K) : ∃ fd, EntOk K mg PP tab csts free e_6 fd := by
  obtain ⟨fd, F⟩ := c.def_ 6 (d := d_6) rfl
  obtain ⟨k1, k2⟩ := and2 chk_6
  have g : (He.Fa.glo d_6.at_.1).ok K = true := c.fact 6 (f := He.Fa.glo d_6.at_.1) rfl
  refine ⟨fd, F, He.glo_ok X G g, FunD.bindsN F fun _ _ _ _ _ _ us hl => ?_, k1, b_law_one_of, rfl, rfl, rfl, k2⟩
  match us, hl with
  | [_, _], _ => rfl
theorem ent_7 {K : Fg} {h : Heap} {mg : Str → Option Value} (X : K.In h) (G : h.Ns mainGlobals mg) (c : He.SaysD fa dd K) : ∃ fd, EntOk K mg PP tab csts free e_7 fd := by
  obtain ⟨fd, F⟩ := c.def_ 7 (d := d_7) rfl
  obtain ⟨k1, k2⟩ := and2 chk_7
  have g : (He.Fa.glo d_7.at_.1).ok K = true := c.fact 7 (f := He.Fa.glo d_7.at_.1) rfl
  refine ⟨fd, F, He.glo_ok X G g, FunD.bindsN F fun _ _ _ _ _ _ us hl => ?_, k1, b_law_sort, rfl, rfl, rfl, k2⟩
  match us, hl with
  | [_], _ => rfl
theorem ent_8 {K : Fg} {h : Heap} {mg : Str → Option Value} (X : K.In h) (G : h.Ns mainGlobals mg) (c : He.SaysD fa dd K) : ∃ fd, EntOk K mg PP tab csts free e_8 fd := by
  obtain ⟨fd, F⟩ := c.def_ 8 (d := d_8) rfl
  obtain ⟨k1, k2⟩ := and2 chk_8
  have g : (He.Fa.glo d_8.at_.1).ok K = true := c.fact 8 (f := He.Fa.glo d_8.at_.1) rfl
  refine ⟨fd, F, He.glo_ok X G g, FunD.bindsN F fun _ _ _ _ _ _ us hl => ?_, k1, b_law_same, rfl, rfl, rfl, k2⟩
  match us, hl with
  | [_, _], _ => rfl
theorem ent_9 {K : Fg} {h : Heap} {mg : Str → Option Value} (X : K.In h) (G : h.Ns mainGlobals mg) (c : He.SaysD fa dd K) : ∃ fd, EntOk K mg PP tab csts free e_9 fd := by
  obtain ⟨fd, F⟩ := c.def_ 9 (d := d_9) rfl
  obtain ⟨k1, k2⟩ := and2 chk_9
  have g : (He.Fa.glo d_9.at_.1).ok K = true := c.fact 9 (f := He.Fa.glo d_9.at_.1) rfl
  refine ⟨fd, F, He.glo_ok X G g, FunD.bindsN F fun _ _ _ _ _ _ us hl => ?_, k1, b_law_whole, rfl, rfl, rfl, k2⟩
  match us, hl with
  | [_, _, _], _ => rfl
theorem ent_10 {K : Fg} {h : Heap} {mg : Str → Option Value} (X : K.In h) (G : h.Ns mainGlobals mg) (c : He.SaysD fa dd K) : ∃ fd, EntOk K mg PP tab csts free e_10 fd := by
  obtain ⟨fd, F⟩ := c.def_ 10 (d := d_10) rfl
  obtain ⟨k1, k2⟩ := and2 chk_10
  have g : (He.Fa.glo d_10.at_.1).ok K = true := c.fact 10 (f := He.Fa.glo d_10.at_.1) rfl
  refine ⟨fd, F, He.glo_ok X G g, FunD.bindsN F fun _ _ _ _ _ _ us hl => ?_, k1, b_law_odd, rfl, rfl, rfl, k2⟩
  match us, hl with
  | [_], _ => rfl
theorem ent_11 {K : Fg} {h : Heap} {mg : Str → Option Value} (X : K.In h) (G : h.Ns mainGlobals mg) (c : He.SaysD fa dd K) : ∃ fd, EntOk K mg PP tab csts free e_11 fd := by
  obtain ⟨fd, F⟩ := c.def_ 11 (d := d_11) rfl
  obtain ⟨k1, k2⟩ := and2 chk_11
  have g : (He.Fa.glo d_11.at_.1).ok K = true := c.fact 11 (f := He.Fa.glo d_11.at_.1) rfl
  refine ⟨fd, F, He.glo_ok X G g, FunD.bindsN F fun _ _ _ _ _ _ us hl => ?_, k1, b_law_key, rfl, rfl, rfl, k2⟩
  match us, hl with
  | [_], _ => rfl
theorem ent_12 {K : Fg} {h : Heap} {mg : Str → Option Value} (X : K.In h) (G : h.Ns mainGlobals mg) (c : He.SaysD fa dd K) : ∃ fd, EntOk K mg PP tab csts free e_12 fd := by
  obtain ⟨fd, F⟩ := c.def_ 12 (d := d_12) rfl
  obtain ⟨k1, k2⟩ := and2 chk_12
  have g : (He.Fa.glo d_12.at_.1).ok K = true := c.fact 12 (f := He.Fa.glo d_12.at_.1) rfl
  refine ⟨fd, F, He.glo_ok X G g, FunD.bindsN F fun _ _ _ _ _ _ us hl => ?_, k1, b_law, rfl, rfl, rfl, k2⟩
  match us, hl with
  | [_], _ => rfl
theorem facts {P : Program} {w : World} {K : Fg} {h : Heap} {mg : Str → Option Value} {f : Addr} (X : K.In h) (G : h.Ns mainGlobals mg) (hfa : mg ("law" : Str) = some (.ref f)) (ce : exB csts K = true) (c : He.SaysD fa dd K) :
    ∃ fd : FuncData, (∀ (s : Shared) (v : Value), BindsTo s fd ⟨[v], []⟩ [("script", v)]) ∧ ∀ base : Heap, K.In base → base.Ns mainGlobals mg → FnOk P w K mg base CX0 6 f fd ["script"] (spOf K noCl (callN PP 6) f_law 1) := by
  have hT : ∀ e ∈ tab, ∃ fd, EntOk K mg PP tab csts free e fd := List.forall_mem_cons.mpr ⟨ent_0 X G c, List.forall_mem_cons.mpr ⟨ent_1 X G c, List.forall_mem_cons.mpr ⟨ent_2 X G c, List.forall_mem_cons.mpr ⟨ent_3 X G c, List.forall_mem_cons.mpr ⟨ent_4 X G c, List.forall_mem_cons.mpr ⟨ent_5 X G c, List.forall_mem_cons.mpr ⟨ent_6 X G c, List.forall_mem_cons.mpr ⟨ent_7 X G c, List.forall_mem_cons.mpr ⟨ent_8 X G c, List.forall_mem_cons.mpr ⟨ent_9 X G c, List.forall_mem_cons.mpr ⟨ent_10 X G c, List.forall_mem_cons.mpr ⟨ent_11 X G c, List.forall_mem_cons.mpr ⟨ent_12 X G c, fun _ h => nomatch h⟩⟩⟩⟩⟩⟩⟩⟩⟩⟩⟩⟩⟩
  have gl : Glb K mg csts free := glb_of X G ce fun x hx => List.all_eq_true.mp (He.ba (show ((fa.all fun f => f.ok K) && dd.all fun d => d.ok K) = true from congrArg (fun z : He.AlD => z.1) c)).1 _ (fa_free hx)
  obtain ⟨fd, ek⟩ := ent_12 X G c
  have e := hfa.symm.trans ek.mg
  cases e
  have b := FunD.bindsA (ps := ["script"]) ek.fn fun _ _ _ _ _ _ us hl => match us, hl with | [_], _ => rfl
  exact ⟨fd, fun s v => b s [v] rfl, fun base _ _ => law_fn gl hT 6 (List.mem_of_getElem? (show tab[12]? = some e_12 from rfl)) ek base⟩
end Mn
open PySem PySem.W PySem.Calls PyProof.Rows
theorem PySem.Challenge.cw_heapwright_k01_keys_and_items_holds : PySem.Challenge.rw_heapwright_k01_keys_and_items.Holds := by
  w_on; o_law
  refine HandSHeadRun.head_any (r := Mn.RR) (q := view Mn.RR.prog [17]) (H := Mn.hk) (ob := Mn.ob) (M := 4000) (loose := Mn.loose) (d := HandSHeadRun.topDef Mn.RR.prog 17) (kwd := []) Mn.ob_eq
    (by kernel_rfl) (fun s => by kernel_rfl) Mn.run (by kernel_rfl) (by kernel_rfl) (by kernel_rfl) (by rfl)
    (by first | assumption | decide +kernel) (by decide +kernel) ⟨rfl, rfl, rfl, rfl, rfl, by decide +kernel⟩ ?hw ?hc
  case hw => w_witness2
  case hc =>
    refine L2.walk_ofE (l := PySem.Challenge.rw_heapwright_k01_keys_and_items) (n := 63) (k := 6) (x := "script") (CX := L2.CX0) rfl (by decide) (by kernel_rfl) ⟨rfl, by decide, by decide⟩ ?F (fun _ _ _ _ z => z)
    intro w mg fa h Y G hmg0
    obtain ⟨K, KX, ce, c⟩ := Y
    have hmg : mg ("law" : PySem.Str) = some (.ref fa) := by
      have e : (HandSHeadRun.topDef Mn.RR.prog 17).name = ("law" : PySem.Str) := by kernel_rfl
      rw [← e]
      exact hmg0
    obtain ⟨fd, hb, hF⟩ := Mn.facts (P := (PySem.Challenge.rw_heapwright_k01_keys_and_items).prog) (w := w) KX G hmg ce c
    exact ⟨K, fd, _, KX, hb, fun H a ns hl hO hS => Mn.law_sp hO hS (Mn.law_ok 0 ns hl) (Mn.callN_mono Mn.PP 6), hF⟩
#print axioms PySem.Challenge.cw_heapwright_k01_keys_and_items_holds

